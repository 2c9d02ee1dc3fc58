/- Part 5 of the proof: the value layer and the contracts of the functions that the statement reaches; proved without conditions beyond those each theorem states. -/
import Derived.Test.YtnpkaemlidifgaaV4
set_option linter.unusedSimpArgs false
set_option linter.unusedVariables false

section
/- PURSE -/
/- Contracts: readings of the nodes with the fewest changes. -/
namespace Go.Proofs.Ytnpkaemlidifgaa
open Go.Abs Go
set_option maxRecDepth 20000
set_option maxHeartbeats 8000000
attribute [local irreducible] PreK CondK CallK CallG CallX LoopK
attribute [local simp] avsEq avEq akind teq vkind vEq

theorem best_c (t : List (List Int)) (par ats : List Int) (p : Nat) (ht : Rds t) (hx : Treed par ats) (hl : ats.length = t.length) (hp : p < wid t) :
    CallP Try.prog 60 [rdsV t, treeV par ats, iv p] (match bestR par (prs t ats p) with | some o => .tup [ints o, bv true] | none => .tup [ints [], bv false]) := by
  refine C60 (by simp) ?_
  have hfx := fixed_c t par ats p ht hx hl hp
  have htop := hx.top
  have hpos := hx.pos
  have hok := treeOK_of ht hx hl hp
  generalize hR : (match bestR par (prs t ats p) with | some o => AV.tup [ints o, bv true] | none => .tup [ints [], bv false]) = R
  unfold bestR at hR
  cases hF : fixF (List.replicate par.length (-1)) (prs t ats p) with
  | none =>
    rw [hF] at hfx hR
    dsimp only [Option.map] at hfx hR
    simp [A60]
    try simp 
    repeat' (first
      | (refine CallX.pure (hfx) (by simp) (by simp) ?_; try simp )
      | (refine CallK.intro (hfx) (by simp) (by simp) ?_; try simp )
      | (refine CallG.intro (fun _ => hfx) (by simp) (by simp) ?_; try simp )
      | ((with_reducible refine PreK.intro ?_ ?_); (next => (first | omega | (intros; first | omega | (refine ⟨by omega, ?_⟩; repeat (first | assumption | constructor)) | assumption))); intro _; try simp )
      | fail)
    refine CondK.tt ?_
    try simp 
    subst hR
    refine ⟨[], ?_⟩
    simp [frzs]
    repeat (refine PreK.intro (by first | omega | (intros; first | omega | (refine ⟨by omega, ?_⟩; simp_all; done) | (simp_all; done) | (simp_all; omega))) fun _ => ?_; (try simp ))
  | some own =>
    rw [hF] at hfx hR
    dsimp only [Option.map] at hfx hR
    have hol : own.length = par.length := (fix_some hok.pairs (by simp) hF).1
    have hbw := Backward_c own
    have hit := backward_it own (by omega)
    have hrz := rowsB_zero own.length
    simp [A60]
    try simp 
    repeat' (first
      | (refine CallX.pure (hfx) (by simp) (by simp) ?_; try simp )
      | (refine CallK.intro (hfx) (by simp) (by simp) ?_; try simp )
      | (refine CallG.intro (fun _ => hfx) (by simp) (by simp) ?_; try simp )
      | ((with_reducible refine PreK.intro ?_ ?_); (next => (first | omega | (intros; first | omega | (refine ⟨by omega, ?_⟩; repeat (first | assumption | constructor)) | assumption))); intro _; try simp )
      | fail)
    refine CondK.ff ?_
    try simp 
    repeat (refine PreK.intro (by first | omega | (intros; first | omega | (refine ⟨by omega, ?_⟩; simp_all; done) | (simp_all; done) | (simp_all; omega))) fun _ => ?_; (try simp ))
    try simp 
    repeat' (first
      | (refine CallX.pure (hbw) (by simp) (by simp) ?_; try simp )
      | (refine CallK.intro (hbw) (by simp) (by simp) ?_; try simp )
      | (refine CallG.intro (fun _ => hbw) (by simp) (by simp) ?_; try simp )
      | ((with_reducible refine PreK.intro ?_ ?_); (next => (first | omega | (intros; first | omega | (refine ⟨by omega, ?_⟩; repeat (first | assumption | constructor)) | assumption))); intro _; try simp )
      | fail)
    rw [← hrz]
    refine RangeK.by ⟨[(36, .fn 103 [] [.ipt (ints own) 0]), (4, .pt 4 1 0 0), (8, .pt 8 1 0 0), (10, .pt 10 1 0 0)],
        [(4, some ⟨2, [treeV par ats], 1, true⟩), (8, some ⟨1, [ints own], 1, true⟩), (10, some ⟨1, [.sl 34 1 0 own.length], 1, true⟩), (34, some ⟨3, rowsB zeroC own.length, 1, false⟩)]⟩
      [(4, 1, 4), (8, 1, 8), (10, 1, 10), (34, 1, 34)] (ι := Cost) (fun b => [(4, some ⟨2, [treeV par ats], 0, true⟩), (8, some ⟨1, [ints own], 0, true⟩), (10, some ⟨1, [.sl 34 0 0 own.length], 0, true⟩), (34, some ⟨3, rowsB b own.length, 0, false⟩)])
      (fun k b => k < own.length ∧ dpRun 17 (alM own) (pf par) (own.length - k) b = costP par own ∧ ∀ j r, 0 ≤ b j r ∧ b j r ≤ 17 * ((k : Int) + 1)) zeroC
      hit (by simp) (by simp) (by simp [AV.refsL, AV.refs]) (by simp) ?_ (by simp) ⟨by omega, by rw [Nat.sub_zero, hol]; rfl, fun j r => by simp [zeroC]⟩ ?_ ?_ ?_
    · intro k hk
      rw [backL_len] at hk
      rw [backL_get own k hk]
      refine ⟨rfl, fun v hv => ?_⟩
      simp only [List.mem_cons, List.not_mem_nil, or_false] at hv
      rcases hv with rfl | rfl <;> rfl
    · intro k b _
      simp [RoundM]
    · intro k b Q' hk ⟨_, hrun, hbd⟩ hn hxt hrt
      rw [backL_len] at hk
      rw [backL_get own k hk]
      obtain ⟨i, hi⟩ : ∃ i : Nat, own.length - 1 - k = i := ⟨_, rfl⟩
      have hil : i < own.length := by omega
      have hki : own.length - k = i + 1 := by omega
      rw [hi]
      rw [hki, dpRun] at hrun
      have hk16 : k < 16 := by omega
      have hbB : ∀ j r, 0 ≤ b j r ∧ b j r ≤ 272 := fun j r => by have := hbd j r; omega
      have hfb := forb_bound (M := 17) (B := 272) (al := alM own) (i := i) (b := b) (by decide) (by decide) hbB
      simp [parE, renE]
      rw [← forbN_zero 17 (alM own) i b own.length]
      refine LoopK.by (ι := Nat) (fun r => ⟨[(39, iv r), (11, iv i), (4, .pt 4 0 0 0), (8, .pt 8 0 0 0), (10, .pt 10 0 0 0)], [(4, some ⟨2, [treeV par ats], 0, true⟩), (8, some ⟨1, [ints own], 0, true⟩), (10, some ⟨1, [.sl 34 0 0 own.length], 0, true⟩), (34, some ⟨3, rowsB (forbN 17 (alM own) i b r) own.length, 0, false⟩)]⟩)
        (fun r => 3 - r) (fun r => r ≤ 3) 0 (by decide) (by simp) ?_
      intro r Q2 hr3 hq2 he2 hrr2
      have hlen := rowsB_len (forbN 17 (alM own) i b r) own.length
      have hnth := nth_rows (b := forbN 17 (alM own) i b r) hil
      have hq3 := hq2 (r + 1)
      have hsk : alM own i r = true → forbN 17 (alM own) i b ((r + 1 : Nat) : Int) = forbN 17 (alM own) i b r := fun h => forbN_skip h
      have hht : alM own i r = false → forbN 17 (alM own) i b ((r + 1 : Nat) : Int) = fun j q => if j = i ∧ q = (r : Int) then 17 else forbN 17 (alM own) i b r j q := fun h => forbN_hit h
      by_cases h1 : r < 3
      · have h1' : (r : Int) < 3 := by omega
        try simp [h1']
        repeat (refine PreK.intro (by first | omega | (intros; first | omega | (refine ⟨by omega, ?_⟩; simp_all; done) | (simp_all; done) | (simp_all; omega))) fun _ => ?_; (try simp [h1']))
        refine CondK.tt ?_
        try simp 
        generalize forbN 17 (alM own) i b r = c at hlen hnth hsk hht
        by_cases h5 : 0 ≤ el own i
        · by_cases h6 : el own i = (r : Int)
          · have hal : alM own i r = true := by simp [alM, h6]
            rw [hsk hal] at hq3
            have hrc : r = 0 ∨ r = 1 ∨ r = 2 := by omega
            rcases hrc with rfl | rfl | rfl
            all_goals
              simp at h6
              try simp [hil, h5, h6]
              repeat (refine PreK.intro (by first | omega | (intros; first | omega | (refine ⟨by omega, ?_⟩; simp_all; done) | (simp_all; done) | (simp_all; omega))) fun _ => ?_; (try simp [hil, h5, h6]))
              refine CondK.ff ?_
              try simp 
              repeat (refine PreK.intro (by first | omega | (intros; first | omega | (refine ⟨by omega, ?_⟩; simp_all; done) | (simp_all; done) | (simp_all; omega))) fun _ => ?_; (try simp ))
              exact hq3 _ (by omega) (by omega) (by simp)
          · have hal : alM own i r = false := by simp [alM, h6]; omega
            rw [hht hal] at hq3
            have hrc : r = 0 ∨ r = 1 ∨ r = 2 := by omega
            rcases hrc with rfl | rfl | rfl
            all_goals
              simp at h6
              try simp [hil, h5, h6]
              repeat (refine PreK.intro (by first | omega | (intros; first | omega | (refine ⟨by omega, ?_⟩; simp_all; done) | (simp_all; done) | (simp_all; omega))) fun _ => ?_; (try simp [hil, h5, h6]))
              refine CondK.tt ?_
              try simp 
              repeat (refine PreK.intro (by first | omega | (intros; first | omega | (refine ⟨by omega, ?_⟩; simp_all; done) | (simp_all; done) | (simp_all; omega))) fun _ => ?_; (try simp [hil, hlen, hnth]))
              exact hq3 _ (by omega) (by omega) (by simp; exact .inl (rowsB_set _ _ _ (fun j _ hne => by simp [hne]) (by simp)))
        · have hal : alM own i r = true := by simp [alM]; omega
          rw [hsk hal] at hq3
          try simp [hil, h5]
          repeat (refine PreK.intro (by first | omega | (intros; first | omega | (refine ⟨by omega, ?_⟩; simp_all; done) | (simp_all; done) | (simp_all; omega))) fun _ => ?_; (try simp [hil, h5]))
          refine CondK.ff ?_
          try simp 
          repeat (refine PreK.intro (by first | omega | (intros; first | omega | (refine ⟨by omega, ?_⟩; simp_all; done) | (simp_all; done) | (simp_all; omega))) fun _ => ?_; (try simp ))
          exact hq3 _ (by omega) (by omega) (by simp)
      · have h1' : ¬ (r : Int) < 3 := by omega
        obtain rfl : r = 3 := by omega
        try simp [h1']
        repeat (refine PreK.intro (by first | omega | (intros; first | omega | (refine ⟨by omega, ?_⟩; simp_all; done) | (simp_all; done) | (simp_all; omega))) fun _ => ?_; (try simp [h1']))
        refine CondK.ff ?_
        try simp 
        apply he2
        have e3 : rowsB (forbN 17 (alM own) i b ((3 : Nat) : Int)) own.length = rowsB (forb 17 (alM own) i b) own.length := forbN_all _ _ _ _ _
        have e3' : rowsB (forbN 17 (alM own) i b 3) own.length = rowsB (forb 17 (alM own) i b) own.length := forbN_all _ _ _ _ _
        first | rw [e3] | rw [e3']
        by_cases hi0 : i = 0
        · subst hi0
          try simp 
          refine CondK.tt ?_
          try simp 
          rw [dpRun, step_zero] at hrun
          rw [hrun] at hfb ⊢
          apply hxt 0 [(4, some ⟨2, [treeV par ats], 0, true⟩), (8, some ⟨1, [ints own], 0, true⟩), (10, some ⟨1, [.sl 34 0 0 own.length], 0, true⟩), (34, some ⟨3, rowsB (costP par own) own.length, 0, false⟩)]
          · simp
          · simp [RoundM]
          · clear hn hxt hrt hq3 hq2 he2 hrr2 hsk hht hnth hlen e3 e3' hrun hbd hbB
            have hFl := rowsB_len (costP par own) own.length
            generalize hFc : costP par own = F at hfb hFl
            have hoz : List.replicate own.length (AV.raw (.int .i64 0)) = (outG (topD F (alM own) (pf par) 0) (own.length - 0)).map iv := by simp [topD, outG]
            try simp 
            repeat (refine PreK.intro (by first | omega | (intros; first | omega | (refine ⟨by omega, ?_⟩; simp_all; done) | (simp_all; done) | (simp_all; omega))) fun _ => ?_; (try simp ))
            rw [hoz]
            refine LoopK.by (ι := Nat) (fun i => ⟨[(104, iv i), (103, iv own.length), (18, .sl 101 1 0 own.length), (4, .pt 4 1 0 0), (8, .pt 8 1 0 0), (10, .pt 10 1 0 0)],
              [(101, some ⟨1, (outG (topD F (alM own) (pf par) i) (own.length - i)).map iv, 1, false⟩), (4, some ⟨2, [treeV par ats], 1, true⟩), (8, some ⟨1, [ints own], 1, true⟩), (10, some ⟨1, [.sl 34 1 0 own.length], 1, true⟩), (34, some ⟨3, rowsB F own.length, 1, false⟩)]⟩)
              (fun i => own.length - i) (fun i => i ≤ own.length) 0 (Nat.zero_le _) (by simp) ?_
            intro i Q3 hi3 hq he hr
            have hT := topD_len F (alM own) (pf par) i
            try simp 
            refine CondK.intro (fun h2 => ?_) (fun h2 => ?_)
            · simp at h2
              have hq' := hq (i + 1)
              rw [topD] at hq'
              have hnth := nth_rows (b := F) h2
              have hrep : outG (topD F (alM own) (pf par) i) (own.length - i) = outF (topD F (alM own) (pf par) i) (rndN (seenF F (pf par) (topD F (alM own) (pf par) i) i) (alM own i) 0).2 (own.length - (i + 1)) := by
                rw [show own.length - i = (own.length - (i + 1)) + 1 by omega, outG_succ]; rfl
              rw [hrep]
              rw [← outF_end, ← rndN_all] at hq'
              generalize hTT : topD F (alM own) (pf par) i = TT at hT hq'
              have hgb : ∀ r, ok3 r → 0 ≤ seenF F (pf par) TT i r ∧ seenF F (pf par) TT i r ≤ 273 := by
                intro r _
                have h1 := hfb i r
                have h2 := dd_nn r (el TT (pf par i))
                have h3 := dd_le r (el TT (pf par i))
                unfold seenF
                split <;> omega
              have hrb := rndN_bound (al := alM own i) (B := 273) (by decide) hgb
              generalize hZ : own.length - (i + 1) = Z at hq'
              have hset : ∀ v x : Int, ((outF TT v Z).map iv).set i (.raw (.int .i64 x)) = (outF TT x Z).map iv := by
                intro v x
                rw [← hT]; exact outF_set _ _ _ _
              have hol2 : ∀ v : Int, (outF TT v Z).length = own.length := by intro v; rw [outF_len]; omega
              try simp 
              repeat (refine PreK.intro (by first | omega | (intros; first | omega | (refine ⟨by omega, ?_⟩; simp_all; done) | (simp_all; done) | (simp_all; omega))) fun _ => ?_; (try simp [h2, hnth, hFl]))
              refine LoopK.by (ι := Nat) (fun r => ⟨[(111, iv r), (110, .agg [.raw (.int .i64 (F i 0)), .raw (.int .i64 (F i 1)), .raw (.int .i64 (F i 2))]), (20, iv (rndN (seenF F (pf par) TT i) (alM own i) r).1), (19, iv i), (104, iv i), (103, iv own.length), (18, .sl 101 1 0 own.length), (4, .pt 4 1 0 0), (8, .pt 8 1 0 0), (10, .pt 10 1 0 0)],
                [(101, some ⟨1, (outF TT (rndN (seenF F (pf par) TT i) (alM own i) r).2 Z).map iv, 1, false⟩), (4, some ⟨2, [treeV par ats], 1, true⟩), (8, some ⟨1, [ints own], 1, true⟩), (10, some ⟨1, [.sl 34 1 0 own.length], 1, true⟩), (34, some ⟨3, rowsB F own.length, 1, false⟩)]⟩)
                (fun r => 3 - r) (fun r => r ≤ 3) 0 (by decide) (by simp [rndN]) ?_
              intro r Q4 hr4 hq4 he4 hr5
              have hrb1 := hrb r hr4
              have hq5 := hq4 (r + 1)
              rw [rndN, rnd] at hq5
              by_cases h3 : r < 3
              · have h3' : (r : Int) < 3 := by omega
                have hg : seenF F (pf par) TT i r = F i r + if i = 0 then 0 else dd r (el TT (pf par i)) := rfl
                rw [hg] at hq5
                generalize rndN (seenF F (pf par) TT i) (alM own i) r = S at hrb1 hq5
                obtain ⟨S1, S2⟩ := S
                dsimp only at hrb1 hq5
                have hol3 := hol2 S2
                have hset3 := hset S2
                by_cases hal : alM own i r = true
                · rw [if_neg (by simp [hal])] at hq5
                  have hown : el own i < 0 ∨ el own i = (r : Int) := by simpa [alM] using hal
                  have hg0 : ∀ r : Int, (F i r + 0) = F i r := fun r => by omega
                  have hFe0 : r = 0 → F i (r : Int) = F i 0 := fun h => by rw [h]; rfl
                  have hFe1 : r = 1 → F i (r : Int) = F i 1 := fun h => by rw [h]; rfl
                  have hFe2 : r = 2 → F i (r : Int) = F i 2 := fun h => by rw [h]; rfl
                  have hrc : r = 0 ∨ r = 1 ∨ r = 2 := by omega
                  rcases hrc with rfl | rfl | rfl
                  all_goals
                    try have hFe := hFe0 rfl
                    try have hFe := hFe1 rfl
                    try have hFe := hFe2 rfl
                    clear hFe0 hFe1 hFe2
                    try simp 
                    repeat (refine PreK.intro (by first | omega | (intros; first | omega | (refine ⟨by omega, ?_⟩; simp_all; done) | (simp_all; done) | (simp_all; omega))) fun _ => ?_; (try simp ))
                    refine CondK.tt ?_
                    try simp 
                    have hF0 := hfb i 0
                    have hF1 := hfb i 1
                    have hF2 := hfb i 2
                    rcases Decidable.em (i = 0) with hi0 | hi0
                    · rw [if_pos hi0] at hq5
                      subst hi0
                      have h0p : 0 < par.length := hpos
                      have hroot := hx.root
                      have h00 : 0 < (outF TT S2 Z).length := by rw [hol3]; omega
                      rcases hown with h5 | h6
                      · have h5' : ¬ 0 ≤ el own 0 := by omega
                        try simp [h2, h5']
                        repeat (refine PreK.intro (by first | omega | (intros; first | omega | (refine ⟨by omega, ?_⟩; simp_all; done) | (simp_all; done) | (simp_all; omega))) fun _ => ?_; (try simp [h2, h5']))
                        refine CondK.ff ?_
                        try simp 
                        try simp [h2, h0p, hroot, h00]
                        repeat (refine PreK.intro (by first | omega | (intros; first | omega | (refine ⟨by omega, ?_⟩; simp_all; done) | (simp_all; done) | (simp_all; omega))) fun _ => ?_; (try simp [h2, h0p, hroot, h00]))
                        refine CondK.ff ?_
                        try simp 
                        try simp 
                        refine CondK.intro (fun h7 => ?_) (fun h7 => ?_)
                        · rw [if_pos (by simp at h7; omega)] at hq5
                          try simp [h2, hol3]
                          repeat (refine PreK.intro (by first | omega | (intros; first | omega | (refine ⟨by omega, ?_⟩; simp_all; done) | (simp_all; done) | (simp_all; omega))) fun _ => ?_; (try simp [h2, hol3]))
                          exact hq5 _ (by omega) (by omega) (by simp; exact .inl (hset3 _))
                        · rw [if_neg (by simp at h7; omega)] at hq5
                          try simp 
                          repeat (refine PreK.intro (by first | omega | (intros; first | omega | (refine ⟨by omega, ?_⟩; simp_all; done) | (simp_all; done) | (simp_all; omega))) fun _ => ?_; (try simp ))
                          exact hq5 _ (by omega) (by omega) (by simp)
                      · simp at h6
                        try simp [h2, h6]
                        repeat (refine PreK.intro (by first | omega | (intros; first | omega | (refine ⟨by omega, ?_⟩; simp_all; done) | (simp_all; done) | (simp_all; omega))) fun _ => ?_; (try simp [h2, h6]))
                        refine CondK.ff ?_
                        try simp 
                        try simp [h2, h0p, hroot, h00]
                        repeat (refine PreK.intro (by first | omega | (intros; first | omega | (refine ⟨by omega, ?_⟩; simp_all; done) | (simp_all; done) | (simp_all; omega))) fun _ => ?_; (try simp [h2, h0p, hroot, h00]))
                        refine CondK.ff ?_
                        try simp 
                        try simp 
                        refine CondK.intro (fun h7 => ?_) (fun h7 => ?_)
                        · rw [if_pos (by simp at h7; omega)] at hq5
                          try simp [h2, hol3]
                          repeat (refine PreK.intro (by first | omega | (intros; first | omega | (refine ⟨by omega, ?_⟩; simp_all; done) | (simp_all; done) | (simp_all; omega))) fun _ => ?_; (try simp [h2, hol3]))
                          exact hq5 _ (by omega) (by omega) (by simp; exact .inl (hset3 _))
                        · rw [if_neg (by simp at h7; omega)] at hq5
                          try simp 
                          repeat (refine PreK.intro (by first | omega | (intros; first | omega | (refine ⟨by omega, ?_⟩; simp_all; done) | (simp_all; done) | (simp_all; omega))) fun _ => ?_; (try simp ))
                          exact hq5 _ (by omega) (by omega) (by simp)
                    · have hi0' : 0 < i := by omega
                      have hi0'' : (0 : Int) < (i : Int) := by omega
                      rw [if_neg hi0] at hq5
                      have hip : i < par.length := by omega
                      have hpf := hx.pfE (show 1 ≤ i by omega) hip
                      have hpi : el par i = ((pf par i : Nat) : Int) := hpf.2.symm
                      have hplt := pf_lt par i (by omega)
                      have hel := outF_el TT S2 Z (pf par i) (by omega)
                      generalize pf par i = m at hpi hplt hel hq5
                      have hmo : m < (outF TT S2 Z).length := by omega
                      have hml : m < own.length := by omega
                      generalize el TT m = e at hel hq5
                      rcases hown with h5 | h6
                      · have h5' : ¬ 0 ≤ el own i := by omega
                        try simp [h2, h5']
                        repeat (refine PreK.intro (by first | omega | (intros; first | omega | (refine ⟨by omega, ?_⟩; simp_all; done) | (simp_all; done) | (simp_all; omega))) fun _ => ?_; (try simp [h2, h5']))
                        refine CondK.ff ?_
                        try simp 
                        try simp [h2, hi0', hi0'', hip, hpi, hol3, hmo, hml, hel]
                        repeat (refine PreK.intro (by first | omega | (intros; first | omega | (refine ⟨by omega, ?_⟩; simp_all; done) | (simp_all; done) | (simp_all; omega))) fun _ => ?_; (try simp [h2, hi0', hi0'', hip, hpi, hol3, hmo, hml, hel]))
                        refine CondK.intro (fun h8 => ?_) (fun h8 => ?_)
                        · simp at h8
                          have hdd : ∀ q : Int, ¬ q = e → dd q e = 1 := fun q h => by unfold dd; rw [if_neg h]
                          rw [hdd _ (by simpa using h8)] at hq5
                          try simp 
                          repeat (refine PreK.intro (by first | omega | (intros; first | omega | (refine ⟨by omega, ?_⟩; simp_all; done) | (simp_all; done) | (simp_all; omega))) fun _ => ?_; (try simp ))
                          refine CondK.intro (fun h7 => ?_) (fun h7 => ?_)
                          · rw [if_pos (by simp at h7; omega)] at hq5
                            try simp [h2, hol3]
                            repeat (refine PreK.intro (by first | omega | (intros; first | omega | (refine ⟨by omega, ?_⟩; simp_all; done) | (simp_all; done) | (simp_all; omega))) fun _ => ?_; (try simp [h2, hol3]))
                            exact hq5 _ (by omega) (by omega) (by simp; exact .inl (hset3 _))
                          · rw [if_neg (by simp at h7; omega)] at hq5
                            try simp 
                            repeat (refine PreK.intro (by first | omega | (intros; first | omega | (refine ⟨by omega, ?_⟩; simp_all; done) | (simp_all; done) | (simp_all; omega))) fun _ => ?_; (try simp ))
                            exact hq5 _ (by omega) (by omega) (by simp)
                        · simp at h8
                          have hdd : ∀ q : Int, q = e → dd q e = 0 := fun q h => by unfold dd; rw [if_pos h]
                          rw [hdd _ (by simpa using h8)] at hq5
                          try simp 
                          repeat (refine PreK.intro (by first | omega | (intros; first | omega | (refine ⟨by omega, ?_⟩; simp_all; done) | (simp_all; done) | (simp_all; omega))) fun _ => ?_; (try simp ))
                          refine CondK.intro (fun h7 => ?_) (fun h7 => ?_)
                          · rw [if_pos (by simp at h7; omega)] at hq5
                            try simp [h2, hol3]
                            repeat (refine PreK.intro (by first | omega | (intros; first | omega | (refine ⟨by omega, ?_⟩; simp_all; done) | (simp_all; done) | (simp_all; omega))) fun _ => ?_; (try simp [h2, hol3]))
                            exact hq5 _ (by omega) (by omega) (by simp; exact .inl (hset3 _))
                          · rw [if_neg (by simp at h7; omega)] at hq5
                            try simp 
                            repeat (refine PreK.intro (by first | omega | (intros; first | omega | (refine ⟨by omega, ?_⟩; simp_all; done) | (simp_all; done) | (simp_all; omega))) fun _ => ?_; (try simp ))
                            exact hq5 _ (by omega) (by omega) (by simp)
                      · simp at h6
                        try simp [h2, h6]
                        repeat (refine PreK.intro (by first | omega | (intros; first | omega | (refine ⟨by omega, ?_⟩; simp_all; done) | (simp_all; done) | (simp_all; omega))) fun _ => ?_; (try simp [h2, h6]))
                        refine CondK.ff ?_
                        try simp 
                        try simp [h2, hi0', hi0'', hip, hpi, hol3, hmo, hml, hel]
                        repeat (refine PreK.intro (by first | omega | (intros; first | omega | (refine ⟨by omega, ?_⟩; simp_all; done) | (simp_all; done) | (simp_all; omega))) fun _ => ?_; (try simp [h2, hi0', hi0'', hip, hpi, hol3, hmo, hml, hel]))
                        refine CondK.intro (fun h8 => ?_) (fun h8 => ?_)
                        · simp at h8
                          have hdd : ∀ q : Int, ¬ q = e → dd q e = 1 := fun q h => by unfold dd; rw [if_neg h]
                          rw [hdd _ (by simpa using h8)] at hq5
                          try simp 
                          repeat (refine PreK.intro (by first | omega | (intros; first | omega | (refine ⟨by omega, ?_⟩; simp_all; done) | (simp_all; done) | (simp_all; omega))) fun _ => ?_; (try simp ))
                          refine CondK.intro (fun h7 => ?_) (fun h7 => ?_)
                          · rw [if_pos (by simp at h7; omega)] at hq5
                            try simp [h2, hol3]
                            repeat (refine PreK.intro (by first | omega | (intros; first | omega | (refine ⟨by omega, ?_⟩; simp_all; done) | (simp_all; done) | (simp_all; omega))) fun _ => ?_; (try simp [h2, hol3]))
                            exact hq5 _ (by omega) (by omega) (by simp; exact .inl (hset3 _))
                          · rw [if_neg (by simp at h7; omega)] at hq5
                            try simp 
                            repeat (refine PreK.intro (by first | omega | (intros; first | omega | (refine ⟨by omega, ?_⟩; simp_all; done) | (simp_all; done) | (simp_all; omega))) fun _ => ?_; (try simp ))
                            exact hq5 _ (by omega) (by omega) (by simp)
                        · simp at h8
                          have hdd : ∀ q : Int, q = e → dd q e = 0 := fun q h => by unfold dd; rw [if_pos h]
                          rw [hdd _ (by simpa using h8)] at hq5
                          try simp 
                          repeat (refine PreK.intro (by first | omega | (intros; first | omega | (refine ⟨by omega, ?_⟩; simp_all; done) | (simp_all; done) | (simp_all; omega))) fun _ => ?_; (try simp ))
                          refine CondK.intro (fun h7 => ?_) (fun h7 => ?_)
                          · rw [if_pos (by simp at h7; omega)] at hq5
                            try simp [h2, hol3]
                            repeat (refine PreK.intro (by first | omega | (intros; first | omega | (refine ⟨by omega, ?_⟩; simp_all; done) | (simp_all; done) | (simp_all; omega))) fun _ => ?_; (try simp [h2, hol3]))
                            exact hq5 _ (by omega) (by omega) (by simp; exact .inl (hset3 _))
                          · rw [if_neg (by simp at h7; omega)] at hq5
                            try simp 
                            repeat (refine PreK.intro (by first | omega | (intros; first | omega | (refine ⟨by omega, ?_⟩; simp_all; done) | (simp_all; done) | (simp_all; omega))) fun _ => ?_; (try simp ))
                            exact hq5 _ (by omega) (by omega) (by simp)
                · have hal' : alM own i r = false := by simpa using hal
                  rw [if_pos hal'] at hq5
                  have h5 : 0 ≤ el own i := by simp [alM] at hal'; omega
                  have h6 : ¬ el own i = (r : Int) := by simp [alM] at hal'; omega
                  have hrc : r = 0 ∨ r = 1 ∨ r = 2 := by omega
                  rcases hrc with rfl | rfl | rfl
                  all_goals
                    simp at h6
                    try simp 
                    repeat (refine PreK.intro (by first | omega | (intros; first | omega | (refine ⟨by omega, ?_⟩; simp_all; done) | (simp_all; done) | (simp_all; omega))) fun _ => ?_; (try simp ))
                    refine CondK.tt ?_
                    try simp 
                    try simp [h2, h5, h6]
                    repeat (refine PreK.intro (by first | omega | (intros; first | omega | (refine ⟨by omega, ?_⟩; simp_all; done) | (simp_all; done) | (simp_all; omega))) fun _ => ?_; (try simp [h2, h5, h6]))
                    refine CondK.tt ?_
                    try simp 
                    try simp 
                    repeat (refine PreK.intro (by first | omega | (intros; first | omega | (refine ⟨by omega, ?_⟩; simp_all; done) | (simp_all; done) | (simp_all; omega))) fun _ => ?_; (try simp ))
                    exact hq5 _ (by omega) (by omega) (by simp)
              · have h3' : ¬ (r : Int) < 3 := by omega
                obtain rfl : r = 3 := by omega
                try simp [h3']
                repeat (refine PreK.intro (by first | omega | (intros; first | omega | (refine ⟨by omega, ?_⟩; simp_all; done) | (simp_all; done) | (simp_all; omega))) fun _ => ?_; (try simp [h3']))
                refine CondK.ff ?_
                try simp 
                apply he4
                repeat (refine PreK.intro (by first | omega | (intros; first | omega | (refine ⟨by omega, ?_⟩; simp_all; done) | (simp_all; done) | (simp_all; omega))) fun _ => ?_; (try simp ))
                exact hq' _ (by omega) (by omega) (by simp)
            · simp at h2
              obtain rfl : i = own.length := by omega
              have eR : outG (topD F (alM own) (pf par) own.length) (own.length - own.length) = readM par own := by
                rw [Nat.sub_self]
                unfold outG readM
                rw [hFc, hol]
                simp
              have hrl := readM_len par own
              rw [eR]
              try simp 
              apply he
              try simp 
              rw [← hR]
              refine ⟨[], ?_⟩
              simp [frzs]
              repeat (refine PreK.intro (by first | omega | (intros; first | omega | (refine ⟨by omega, ?_⟩; simp_all; done) | (simp_all; done) | (simp_all; omega))) fun _ => ?_; (try simp [hrl, hol]))
              exact List.take_of_length_le (by simp [hrl])
        · have hi0' : ¬ (i : Int) = 0 := by omega
          have hip : i < par.length := by omega
          have hpf := hx.pfE (show 1 ≤ i by omega) hip
          have hpi : el par i = ((pf par i : Nat) : Int) := hpf.2.symm
          have hplt := pf_lt par i (by omega)
          have hadd := addN_all 17 (alM own) (pf par) i hi0 b own.length
          have hsb := step_bound (M := 17) (B := 17 * ((k : Int) + 1)) (al := alM own) (p := pf par) (i := i) (b := b) (by decide) (by omega) hbd
          generalize hm : pf par i = m at hpi hplt hadd
          generalize hfc : forb 17 (alM own) i b = fb at hfb hadd
          try simp [hi0', hi0]
          repeat (refine PreK.intro (by first | omega | (intros; first | omega | (refine ⟨by omega, ?_⟩; simp_all; done) | (simp_all; done) | (simp_all; omega))) fun _ => ?_; (try simp [hi0', hi0]))
          refine CondK.ff ?_
          try simp 
          repeat (refine PreK.intro (by first | omega | (intros; first | omega | (refine ⟨by omega, ?_⟩; simp_all; done) | (simp_all; done) | (simp_all; omega))) fun _ => ?_; (try simp [hip, hpi]))
          rw [← addN_zero 17 i m fb own.length]
          refine LoopK.by (ι := Nat) (fun r => ⟨[(68, iv r), (13, iv m), (11, iv i), (10, .pt 10 0 0 0)], [(4, some ⟨2, [treeV par ats], 0, true⟩), (8, some ⟨1, [ints own], 0, true⟩), (10, some ⟨1, [.sl 34 0 0 own.length], 0, true⟩), (34, some ⟨3, rowsB (addN 17 i m fb r) own.length, 0, false⟩)]⟩)
            (fun r => 3 - r) (fun r => r ≤ 3) 0 (by decide) (by simp) ?_
          clear hq3 hq2 he2 hrr2 hsk hht hnth hlen e3 e3' hr3 h1 h1'
          intro r Q3 hr3 hq3 he3 hrr3
          have hlen := rowsB_len (addN 17 i m fb r) own.length
          have hnth := nth_rows (b := addN 17 i m fb r) hil
          have hnm := nth_rows (b := addN 17 i m fb r) (show m < own.length by omega)
          have hci : ∀ q, addN 17 i m fb r i q = fb i q := fun q => by simp [addN]; omega
          have hcm : addN 17 i m fb r m r = fb m r := by simp [addN]
          have hq4 := hq3 (r + 1)
          have hsu : addN 17 i m fb ((r + 1 : Nat) : Int) = fun j q => if j = m ∧ q = (r : Int) then fb m r + leastF 17 (fb i) r else addN 17 i m fb r j q := addN_succ (q := (r : Int))
          rw [hsu] at hq4
          have hf0 := hfb i 0
          have hf1 := hfb i 1
          have hf2 := hfb i 2
          have hfm := hfb m r
          by_cases h1 : r < 3
          · have h1' : (r : Int) < 3 := by omega
            try simp [h1']
            repeat (refine PreK.intro (by first | omega | (intros; first | omega | (refine ⟨by omega, ?_⟩; simp_all; done) | (simp_all; done) | (simp_all; omega))) fun _ => ?_; (try simp [h1']))
            refine CondK.tt ?_
            try simp 
            repeat (refine PreK.intro (by first | omega | (intros; first | omega | (refine ⟨by omega, ?_⟩; simp_all; done) | (simp_all; done) | (simp_all; omega))) fun _ => ?_; (try simp [hil, hlen, hnth, hci]))
            refine LoopK.by (ι := Nat) (fun q => ⟨[(75, iv q), (74, .agg [.raw (.int .i64 (fb i 0)), .raw (.int .i64 (fb i 1)), .raw (.int .i64 (fb i 2))]), (15, iv (leastN 17 (fb i) r q)), (14, iv r), (68, iv r), (13, iv m), (11, iv i), (10, .pt 10 0 0 0)], [(4, some ⟨2, [treeV par ats], 0, true⟩), (8, some ⟨1, [ints own], 0, true⟩), (10, some ⟨1, [.sl 34 0 0 own.length], 0, true⟩), (34, some ⟨3, rowsB (addN 17 i m fb r) own.length, 0, false⟩)]⟩)
              (fun q => 3 - q) (fun q => q ≤ 3) 0 (by decide) (by simp [leastN]) ?_
            intro q Q5 hq35 hq5 he5 hr5
            have hlb := leastN_bound (M := 17) (f := fb i) (r := r) (by decide) (fun q => (hfb i q).1) q
            have hq6 := hq5 (q + 1)
            rw [leastN] at hq6
            by_cases h2 : q < 3
            · have hqc : q = 0 ∨ q = 1 ∨ q = 2 := by omega
              generalize leastN 17 (fb i) r q = S at hlb hq6
              rcases hqc with rfl | rfl | rfl
              · try simp 
                refine CondK.tt ?_
                try simp 
                repeat (refine PreK.intro (by first | omega | (intros; first | omega | (refine ⟨by omega, ?_⟩; simp_all; done) | (simp_all; done) | (simp_all; omega))) fun _ => ?_; (try simp ))
                refine CondK.intro (fun h3 => ?_) (fun h3 => ?_)
                · have hdd : dd ((0 : Nat) : Int) r = 1 := by unfold dd; rw [if_neg (by simp at h3; omega)]
                  rw [hdd, Int.min_def] at hq6
                  repeat (refine PreK.intro (by first | omega | (intros; first | omega | (refine ⟨by omega, ?_⟩; simp_all; done) | (simp_all; done) | (simp_all; omega))) fun _ => ?_; (try simp ))
                  have hmm : (if fb i 0 + 1 < S then fb i 0 + 1 else S) = if S ≤ fb i ((0 : Nat) : Int) + 1 then S else fb i ((0 : Nat) : Int) + 1 := by
                    by_cases hc : fb i 0 + 1 < S
                    · rw [if_pos hc, if_neg (by simpa using hc)]; rfl
                    · rw [if_neg hc, if_pos (by simpa using hc)]
                  rw [← hmm] at hq6
                  exact hq6 _ (by omega) (by omega) (by simp)
                · have hdd : dd ((0 : Nat) : Int) r = 0 := by unfold dd; rw [if_pos (by simp at h3; omega)]
                  rw [hdd, Int.min_def] at hq6
                  repeat (refine PreK.intro (by first | omega | (intros; first | omega | (refine ⟨by omega, ?_⟩; simp_all; done) | (simp_all; done) | (simp_all; omega))) fun _ => ?_; (try simp ))
                  have hmm : (if fb i 0 < S then fb i 0 else S) = if S ≤ fb i ((0 : Nat) : Int) + 0 then S else fb i ((0 : Nat) : Int) + 0 := by
                    by_cases hc : fb i 0 < S
                    · rw [if_pos hc, if_neg (by simpa using hc)]; simp
                    · rw [if_neg hc, if_pos (by simpa using hc)]
                  rw [← hmm] at hq6
                  exact hq6 _ (by omega) (by omega) (by simp)
              · try simp 
                refine CondK.tt ?_
                try simp 
                repeat (refine PreK.intro (by first | omega | (intros; first | omega | (refine ⟨by omega, ?_⟩; simp_all; done) | (simp_all; done) | (simp_all; omega))) fun _ => ?_; (try simp ))
                refine CondK.intro (fun h3 => ?_) (fun h3 => ?_)
                · have hdd : dd ((1 : Nat) : Int) r = 1 := by unfold dd; rw [if_neg (by simp at h3; omega)]
                  rw [hdd, Int.min_def] at hq6
                  repeat (refine PreK.intro (by first | omega | (intros; first | omega | (refine ⟨by omega, ?_⟩; simp_all; done) | (simp_all; done) | (simp_all; omega))) fun _ => ?_; (try simp ))
                  have hmm : (if fb i 1 + 1 < S then fb i 1 + 1 else S) = if S ≤ fb i ((1 : Nat) : Int) + 1 then S else fb i ((1 : Nat) : Int) + 1 := by
                    by_cases hc : fb i 1 + 1 < S
                    · rw [if_pos hc, if_neg (by simpa using hc)]; rfl
                    · rw [if_neg hc, if_pos (by simpa using hc)]
                  rw [← hmm] at hq6
                  exact hq6 _ (by omega) (by omega) (by simp)
                · have hdd : dd ((1 : Nat) : Int) r = 0 := by unfold dd; rw [if_pos (by simp at h3; omega)]
                  rw [hdd, Int.min_def] at hq6
                  repeat (refine PreK.intro (by first | omega | (intros; first | omega | (refine ⟨by omega, ?_⟩; simp_all; done) | (simp_all; done) | (simp_all; omega))) fun _ => ?_; (try simp ))
                  have hmm : (if fb i 1 < S then fb i 1 else S) = if S ≤ fb i ((1 : Nat) : Int) + 0 then S else fb i ((1 : Nat) : Int) + 0 := by
                    by_cases hc : fb i 1 < S
                    · rw [if_pos hc, if_neg (by simpa using hc)]; simp
                    · rw [if_neg hc, if_pos (by simpa using hc)]
                  rw [← hmm] at hq6
                  exact hq6 _ (by omega) (by omega) (by simp)
              · try simp 
                refine CondK.tt ?_
                try simp 
                repeat (refine PreK.intro (by first | omega | (intros; first | omega | (refine ⟨by omega, ?_⟩; simp_all; done) | (simp_all; done) | (simp_all; omega))) fun _ => ?_; (try simp ))
                refine CondK.intro (fun h3 => ?_) (fun h3 => ?_)
                · have hdd : dd ((2 : Nat) : Int) r = 1 := by unfold dd; rw [if_neg (by simp at h3; omega)]
                  rw [hdd, Int.min_def] at hq6
                  repeat (refine PreK.intro (by first | omega | (intros; first | omega | (refine ⟨by omega, ?_⟩; simp_all; done) | (simp_all; done) | (simp_all; omega))) fun _ => ?_; (try simp ))
                  have hmm : (if fb i 2 + 1 < S then fb i 2 + 1 else S) = if S ≤ fb i ((2 : Nat) : Int) + 1 then S else fb i ((2 : Nat) : Int) + 1 := by
                    by_cases hc : fb i 2 + 1 < S
                    · rw [if_pos hc, if_neg (by simpa using hc)]; rfl
                    · rw [if_neg hc, if_pos (by simpa using hc)]
                  rw [← hmm] at hq6
                  exact hq6 _ (by omega) (by omega) (by simp)
                · have hdd : dd ((2 : Nat) : Int) r = 0 := by unfold dd; rw [if_pos (by simp at h3; omega)]
                  rw [hdd, Int.min_def] at hq6
                  repeat (refine PreK.intro (by first | omega | (intros; first | omega | (refine ⟨by omega, ?_⟩; simp_all; done) | (simp_all; done) | (simp_all; omega))) fun _ => ?_; (try simp ))
                  have hmm : (if fb i 2 < S then fb i 2 else S) = if S ≤ fb i ((2 : Nat) : Int) + 0 then S else fb i ((2 : Nat) : Int) + 0 := by
                    by_cases hc : fb i 2 < S
                    · rw [if_pos hc, if_neg (by simpa using hc)]; simp
                    · rw [if_neg hc, if_pos (by simpa using hc)]
                  rw [← hmm] at hq6
                  exact hq6 _ (by omega) (by omega) (by simp)
            · obtain rfl : q = 3 := by omega
              try simp 
              refine CondK.ff ?_
              try simp 
              apply he5
              rw [leastN_all] at hlb
              have hml : m < own.length := by omega
              first | rw [leastN_all] | skip
              generalize addN 17 i m fb (r : Int) = c at hlen hnth hnm hci hcm hq4
              generalize leastF 17 (fb i) r = LL at hlb hq4
              have hrc : r = 0 ∨ r = 1 ∨ r = 2 := by omega
              rcases hrc with rfl | rfl | rfl
              all_goals
                simp at hcm hfm
                try simp [hml, hlen, hnm, hcm]
                repeat (refine PreK.intro (by first | omega | (intros; first | omega | (refine ⟨by omega, ?_⟩; simp_all; done) | (simp_all; done) | (simp_all; omega))) fun _ => ?_; (try simp [hml, hlen, hnm, hcm]))
                exact hq4 _ (by omega) (by omega) (by simp; exact .inl (rowsB_set _ _ _ (fun j _ hne => by simp [hne]) (by simp)))
          · have h1' : ¬ (r : Int) < 3 := by omega
            obtain rfl : r = 3 := by omega
            try simp [h1']
            repeat (refine PreK.intro (by first | omega | (intros; first | omega | (refine ⟨by omega, ?_⟩; simp_all; done) | (simp_all; done) | (simp_all; omega))) fun _ => ?_; (try simp [h1']))
            refine CondK.ff ?_
            try simp 
            apply he3
            have hri : own.length - (k + 1) = i := by omega
            refine hn (dpStep 17 (alM own) (pf par) i b) _ ⟨by omega, by rw [hri]; exact hrun, fun j r => ⟨(hsb j r).1, by have := (hsb j r).2; omega⟩⟩ ?_
            simp
            exact hadd
    · rintro b ⟨h, _⟩
      rw [backL_len] at h
      omega
end Go.Proofs.Ytnpkaemlidifgaa
end

section
/- PURSE -/
/- Contracts: the document's smallest number of changes. -/
namespace Go.Proofs.Ytnpkaemlidifgaa
open Go.Abs Go
set_option maxRecDepth 20000
set_option maxHeartbeats 8000000
attribute [local irreducible] PreK CondK CallK CallG CallX LoopK
attribute [local simp] avsEq avEq akind teq vkind vEq

end Go.Proofs.Ytnpkaemlidifgaa
end

section
/- Contracts: the fewest changes, readings, totals, claimed readings, copies apart; by both ways. -/
namespace Go.Proofs.Ytnpkaemlidifgaa
open Go.Abs Go
set_option maxRecDepth 20000
set_option maxHeartbeats 2000000
attribute [local irreducible] PreK CondK CallK CallG CallX LoopK
attribute [local simp] avsEq avEq akind teq vkind vEq

theorem fits_zero {t : List (List Int)} {par ats ps : List Int} (h : fitsErr t par ats ps = 0) : Rds t ∧ Treed par ats ∧ ats.length = t.length ∧ placedErr t ps = 0 ∧ treedErr t par ats = 0 := by
  unfold fitsErr at h
  split at h
  · rename_i h1; exact absurd h h1
  · rename_i h1
    have h1' : treedErr t par ats = 0 := by simpa using h1
    have h2 := h1'
    unfold treedErr at h2
    split at h2
    · rename_i h3; exact absurd h2 h3
    · rename_i h3
      split at h2
      · rename_i h4; exact absurd h2 h4
      · rename_i h4
        split at h2
        · cases h2
        · rename_i h5
          exact ⟨vErr_zero (by simpa using h3), treeErr_zero (by simpa using h4), by simpa using h5, h, h1'⟩
def FewR (t : List (List Int)) (par ats : List Int) (p : Int) : Int × Bool × Int :=
  if fitsErr t par ats [p] ≠ 0 then (0, false, fitsErr t par ats [p]) else match bestR par (prs t ats p.toNat) with | some o => (chgM par o, true, 0) | none => (0, false, 0)
theorem Fewest_c (t : List (List Int)) (par ats : List Int) (p : Int) (h : Sm t) (hp : par.length ≤ 1000) (ha : ats.length ≤ 1000) :
    CallP Try.prog 21 [rdsV t, treeV par ats, iv p] (.tup [iv (FewR t par ats p).1, bv (FewR t par ats p).2.1, iv (FewR t par ats p).2.2]) := by
  refine C21 (by simp) ?_
  have hf := fits_c t par ats [p] h hp ha (by simp)
  simp [A21]
  refine CallX.pure (CallP.weak (by simpa [weakL, weak] using hf)) (by simp) (by simp) ?_
  try simp 
  refine CondK.intro (fun h1 => ?_) (fun h1 => ?_)
  · simp at h1
    simp [FewR, h1]
  · simp at h1
    obtain ⟨hr, hx, hl, hpl, _⟩ := fits_zero h1
    obtain ⟨n, rfl, hn⟩ := placed_nat hpl (List.mem_singleton.2 rfl)
    have hb := best_c t par ats n hr hx hl hn
    have hR : FewR t par ats n = match bestR par (prs t ats n) with | some o => (chgM par o, true, 0) | none => (0, false, 0) := by unfold FewR; rw [if_neg (by simp [h1])]; rfl
    rw [hR]
    cases hbr : bestR par (prs t ats n) with
    | none =>
      rw [hbr] at hb
      try simp 
      repeat' (first
        | (refine CallX.pure (hb) (by simp) (by simp) ?_; try simp )
        | (refine CallK.intro (hb) (by simp) (by simp) ?_; try simp )
        | (refine CallG.intro (fun _ => hb) (by simp) (by simp) ?_; try simp )
        | ((with_reducible refine PreK.intro ?_ ?_); (next => (first | omega | (intros; first | omega | (refine ⟨by omega, ?_⟩; repeat (first | assumption | constructor)) | assumption))); intro _; try simp )
        | fail)
      refine CondK.tt ?_
      try simp 
    | some o =>
      rw [hbr] at hb
      have hol := (best_fits hr hx hl hn hbr).1
      try simp 
      repeat' (first
        | (refine CallX.pure (hb) (by simp) (by simp) ?_; try simp )
        | (refine CallK.intro (hb) (by simp) (by simp) ?_; try simp )
        | (refine CallG.intro (fun _ => hb) (by simp) (by simp) ?_; try simp )
        | ((with_reducible refine PreK.intro ?_ ?_); (next => (first | omega | (intros; first | omega | (refine ⟨by omega, ?_⟩; repeat (first | assumption | constructor)) | assumption))); intro _; try simp )
        | fail)
      refine CondK.ff ?_
      try simp 
      try simp 
      repeat' (first
        | (refine CallX.pure (changes_c par ats o hx hol) (by simp) (by simp) ?_; try simp )
        | (refine CallK.intro (changes_c par ats o hx hol) (by simp) (by simp) ?_; try simp )
        | (refine CallG.intro (fun _ => changes_c par ats o hx hol) (by simp) (by simp) ?_; try simp )
        | ((with_reducible refine PreK.intro ?_ ?_); (next => (first | omega | (intros; first | omega | (refine ⟨by omega, ?_⟩; repeat (first | assumption | constructor)) | assumption))); intro _; try simp )
        | fail)
end Go.Proofs.Ytnpkaemlidifgaa
end

section
/- Functions of the cut as the value layer reads them. (written by gen.py) -/
set_option maxRecDepth 20000
namespace Go.Proofs.Ytnpkaemlidifgaa
open Go.Abs Go

def A12 : ACode :=
  (.seq (.reg [] [⟨some 4, (.assign (.const (.bool false))), 4, none⟩])
    (.seq (.seq (.reg [] [⟨some 16, (.move (.tmp 0)), 22, none⟩,
      ⟨some 17, (.call ⟨(.value (.func 18)), #[(.tmp 16)], #[22]⟩), 4, none⟩])
    (.cond (.tmp 17)
    (.seq (.reg [] [⟨some 18, (.call ⟨(.value (.func 20)), #[], #[]⟩), 4, none⟩,
      ⟨some 4, (.assign (.tmp 18)), 4, none⟩])
    .ret)
    .skip))
    (.seq (.reg [] [⟨some 20, (.move (.tmp 0)), 22, none⟩,
      ⟨some 21, (.move (.tmp 1)), 3, none⟩,
      ⟨some 22, (.call ⟨(.value (.func 49)), #[(.tmp 20), (.tmp 21)], #[22, 3]⟩), 55, none⟩,
      ⟨some 19, (.move (.tmp 22)), 55, none⟩,
      ⟨some 23, (.extract (.tmp 19) 0), 22, none⟩,
      ⟨some 24, (.extract (.tmp 19) 1), 29, none⟩,
      ⟨some 5, (.assign (.tmp 23)), 22, none⟩,
      ⟨some 6, (.assign (.tmp 24)), 29, none⟩])
    (.seq (.reg [] [⟨some 26, (.move (.tmp 0)), 22, none⟩,
      ⟨some 27, (.move (.tmp 1)), 3, none⟩,
      ⟨some 28, (.call ⟨(.value (.func 50)), #[(.tmp 26), (.tmp 27)], #[22, 3]⟩), 55, none⟩,
      ⟨some 25, (.move (.tmp 28)), 55, none⟩,
      ⟨some 29, (.extract (.tmp 25) 0), 22, none⟩,
      ⟨some 30, (.extract (.tmp 25) 1), 29, none⟩,
      ⟨some 7, (.assign (.tmp 29)), 22, none⟩,
      ⟨some 8, (.assign (.tmp 30)), 29, none⟩])
    (.seq (.seq (.reg [] [⟨some 31, (.move (.tmp 5)), 22, none⟩,
      ⟨some 32, (.move (.tmp 7)), 22, none⟩,
      ⟨some 33, (.call ⟨(.value (.func 46)), #[(.tmp 31), (.tmp 32)], #[22, 22]⟩), 4, none⟩,
      ⟨some 34, (.unOp .not 4 (.tmp 33)), 4, none⟩,
      ⟨some 35, (.move (.tmp 34)), 4, none⟩,
      ⟨some 36, (.move (.tmp 6)), 29, some (35, false)⟩,
      ⟨some 37, (.move (.tmp 8)), 29, some (35, false)⟩,
      ⟨some 38, (.binOp .neq 29 (.tmp 36) (.tmp 37) 29), 4, some (35, false)⟩,
      ⟨some 39, (.pick (.tmp 35) (.const (.bool true)) (.tmp 38)), 4, none⟩])
    (.cond (.tmp 39)
    (.seq (.reg [] [⟨some 4, (.assign (.const (.bool false))), 4, none⟩])
    .ret)
    .skip))
    (.seq (.seq (.reg [] [⟨some 40, (.move (.tmp 6)), 29, none⟩,
      ⟨some 41, (.binOp .neq 29 (.tmp 40) (.const (.int .i64 0)) 29), 4, none⟩])
    (.cond (.tmp 41)
    (.seq (.reg [] [⟨some 42, (.call ⟨(.value (.func 20)), #[], #[]⟩), 4, none⟩,
      ⟨some 4, (.assign (.tmp 42)), 4, none⟩])
    .ret)
    .skip))
    (.seq (.seq (.reg [] [⟨some 9, (.assign (.const (.int .i64 0))), 3, none⟩])
    (.block 0 (.loop (.seq (.seq (.reg [] [⟨some 43, (.move (.tmp 9)), 3, none⟩,
      ⟨some 44, (.move (.tmp 0)), 22, none⟩,
      ⟨some 45, (.indexAddr 22 (.tmp 44) (.const (.int .i64 0))), 0, none⟩,
      ⟨some 46, (.load 23 (.tmp 45)), 23, none⟩,
      ⟨some 47, (.call ⟨(.builtin .len), #[(.tmp 46)], #[23]⟩), 3, none⟩,
      ⟨some 48, (.binOp .lss 3 (.tmp 43) (.tmp 47) 3), 4, none⟩])
    (.cond (.tmp 48)
    .skip
    (.exit 0)))
    (.seq (.block 1 (.seq (.reg [] [⟨some 52, (.move (.tmp 0)), 22, none⟩,
      ⟨some 53, (.move (.tmp 9)), 3, none⟩,
      ⟨some 54, (.call ⟨(.value (.func 23)), #[(.tmp 52), (.tmp 53)], #[22, 3]⟩), 32, none⟩,
      ⟨some 51, (.move (.tmp 54)), 32, none⟩,
      ⟨some 55, (.extract (.tmp 51) 0), 3, none⟩,
      ⟨some 56, (.extract (.tmp 51) 1), 29, none⟩,
      ⟨some 10, (.assign (.tmp 55)), 3, none⟩,
      ⟨some 11, (.assign (.tmp 56)), 29, none⟩])
    (.seq (.seq (.reg [] [⟨some 57, (.move (.tmp 11)), 29, none⟩,
      ⟨some 58, (.binOp .neq 29 (.tmp 57) (.const (.int .i64 0)) 29), 4, none⟩])
    (.cond (.tmp 58)
    (.seq (.reg [] [⟨some 4, (.assign (.const (.bool false))), 4, none⟩])
    .ret)
    .skip))
    (.seq (.reg [] [⟨some 59, (.move (.tmp 10)), 3, none⟩,
      ⟨some 60, (.binOp .gtr 3 (.tmp 59) (.const (.int .i64 2)) 3), 4, none⟩])
    (.cond (.tmp 60)
    (.seq (.reg [] [⟨some 61, (.call ⟨(.value (.func 20)), #[], #[]⟩), 4, none⟩,
      ⟨some 4, (.assign (.tmp 61)), 4, none⟩])
    .ret)
    .skip)))))
    (.reg [] [⟨some 49, (.move (.tmp 9)), 3, none⟩,
      ⟨some 50, (.binOp .add 3 (.tmp 49) (.const (.int .i64 1)) 3), 3, none⟩,
      ⟨some 9, (.assign (.tmp 50)), 3, none⟩]))))))
    (.seq (.reg [] [⟨some 63, (.move (.tmp 0)), 22, none⟩,
      ⟨some 64, (.call ⟨(.value (.func 39)), #[(.tmp 63)], #[22]⟩), 51, none⟩,
      ⟨some 62, (.move (.tmp 64)), 51, none⟩,
      ⟨some 65, (.extract (.tmp 62) 0), 50, none⟩,
      ⟨some 66, (.extract (.tmp 62) 1), 29, none⟩,
      ⟨some 12, (.assign (.tmp 65)), 50, none⟩,
      ⟨some 13, (.assign (.tmp 66)), 29, none⟩])
    (.seq (.reg [] [⟨some 68, (.move (.tmp 5)), 22, none⟩,
      ⟨some 69, (.call ⟨(.value (.func 39)), #[(.tmp 68)], #[22]⟩), 51, none⟩,
      ⟨some 67, (.move (.tmp 69)), 51, none⟩,
      ⟨some 70, (.extract (.tmp 67) 0), 50, none⟩,
      ⟨some 71, (.extract (.tmp 67) 1), 29, none⟩,
      ⟨some 14, (.assign (.tmp 70)), 50, none⟩,
      ⟨some 15, (.assign (.tmp 71)), 29, none⟩])
    (.seq (.reg [] [⟨some 72, (.move (.tmp 13)), 29, none⟩,
      ⟨some 73, (.binOp .eql 29 (.tmp 72) (.const (.int .i64 0)) 29), 4, none⟩,
      ⟨some 74, (.move (.tmp 73)), 4, none⟩,
      ⟨some 75, (.move (.tmp 15)), 29, some (74, true)⟩,
      ⟨some 76, (.binOp .eql 29 (.tmp 75) (.const (.int .i64 0)) 29), 4, some (74, true)⟩,
      ⟨some 77, (.pick (.tmp 74) (.tmp 76) (.const (.bool false))), 4, none⟩,
      ⟨some 78, (.move (.tmp 77)), 4, none⟩,
      ⟨some 79, (.move (.tmp 14)), 50, some (78, true)⟩,
      ⟨some 80, (.call ⟨(.builtin .len), #[(.tmp 79)], #[50]⟩), 3, some (78, true)⟩,
      ⟨some 81, (.move (.tmp 12)), 50, some (78, true)⟩,
      ⟨some 82, (.call ⟨(.builtin .len), #[(.tmp 81)], #[50]⟩), 3, some (78, true)⟩,
      ⟨some 83, (.binOp .leq 3 (.tmp 80) (.tmp 82) 3), 4, some (78, true)⟩,
      ⟨some 84, (.pick (.tmp 78) (.tmp 83) (.const (.bool false))), 4, none⟩,
      ⟨some 85, (.move (.tmp 84)), 4, none⟩,
      ⟨some 86, (.call ⟨(.value (.func 20)), #[], #[]⟩), 4, some (85, true)⟩,
      ⟨some 87, (.pick (.tmp 85) (.tmp 86) (.const (.bool false))), 4, none⟩,
      ⟨some 4, (.assign (.tmp 87)), 4, none⟩])
    .ret))))))))))
theorem C12 {args : List AV} {r : AV} (hn : args.length ≤ 88) (h : vc Try.prog T [] A12 (Fin T [(.tmp 4)] r) ⟨envOf 0 args, []⟩) : CallP Try.prog 12 args r :=
  callP_of tok mixed Try.func12 (by kernel_rfl) (by kernel_rfl) (by kernel_rfl : Try.f12.ntmps = 88) (by kernel_rfl : Try.f12.body.bind (strip 88 (fun _ => [])) = some A12) hn h
def A18 : ACode :=
  (.seq (.reg [] [⟨some 2, (.assign (.const (.bool false))), 4, none⟩])
    (.seq (.seq (.reg [] [⟨some 3, (.assign (.const (.int .i64 0))), 3, none⟩])
    (.block 0 (.loop (.seq (.seq (.reg [] [⟨some 4, (.move (.tmp 3)), 3, none⟩,
      ⟨some 5, (.move (.tmp 0)), 22, none⟩,
      ⟨some 6, (.call ⟨(.builtin .len), #[(.tmp 5)], #[22]⟩), 3, none⟩,
      ⟨some 7, (.binOp .lss 3 (.tmp 4) (.tmp 6) 3), 4, none⟩])
    (.cond (.tmp 7)
    .skip
    (.exit 0)))
    (.seq (.block 1 (.seq (.reg [] [⟨some 10, (.move (.tmp 0)), 22, none⟩,
      ⟨some 11, (.move (.tmp 3)), 3, none⟩,
      ⟨some 12, (.indexAddr 22 (.tmp 10) (.tmp 11)), 0, none⟩,
      ⟨some 13, (.load 23 (.tmp 12)), 23, none⟩,
      ⟨some 14, (.call ⟨(.builtin .len), #[(.tmp 13)], #[23]⟩), 3, none⟩,
      ⟨some 15, (.binOp .gtr 3 (.tmp 14) (.const (.int .i64 50)) 3), 4, none⟩])
    (.cond (.tmp 15)
    (.seq (.reg [] [⟨some 2, (.assign (.const (.bool true))), 4, none⟩])
    .ret)
    .skip)))
    (.reg [] [⟨some 8, (.move (.tmp 3)), 3, none⟩,
      ⟨some 9, (.binOp .add 3 (.tmp 8) (.const (.int .i64 1)) 3), 3, none⟩,
      ⟨some 3, (.assign (.tmp 9)), 3, none⟩]))))))
    (.seq (.reg [] [⟨some 16, (.move (.tmp 0)), 22, none⟩,
      ⟨some 17, (.call ⟨(.builtin .len), #[(.tmp 16)], #[22]⟩), 3, none⟩,
      ⟨some 18, (.binOp .gtr 3 (.tmp 17) (.const (.int .i64 50)) 3), 4, none⟩,
      ⟨some 2, (.assign (.tmp 18)), 4, none⟩])
    .ret)))
theorem C18 {args : List AV} {r : AV} (hn : args.length ≤ 19) (h : vc Try.prog T [] A18 (Fin T [(.tmp 2)] r) ⟨envOf 0 args, []⟩) : CallP Try.prog 18 args r :=
  callP_of tok mixed Try.func18 (by kernel_rfl) (by kernel_rfl) (by kernel_rfl : Try.f18.ntmps = 19) (by kernel_rfl : Try.f18.body.bind (strip 19 (fun _ => [])) = some A18) hn h
def A20 : ACode :=
  (.seq (.reg [] [⟨some 0, (.assign (.const (.bool false))), 4, none⟩])
    (.seq (.reg [] [⟨some 11, (.buildSlice 23 2 #[(0, (.const (.int .i64 0))), (1, (.const (.int .i64 0)))]), 23, none⟩,
      ⟨some 12, (.buildSlice 23 2 #[(0, (.const (.int .i64 0))), (1, (.const (.int .i64 1)))]), 23, none⟩,
      ⟨some 13, (.buildSlice 23 2 #[(0, (.const (.int .i64 1))), (1, (.const (.int .i64 0)))]), 23, none⟩,
      ⟨some 14, (.buildSlice 23 2 #[(0, (.const (.int .i64 1))), (1, (.const (.int .i64 1)))]), 23, none⟩,
      ⟨some 15, (.buildSlice 22 4 #[(0, (.tmp 11)), (1, (.tmp 12)), (2, (.tmp 13)), (3, (.tmp 14))]), 22, none⟩,
      ⟨some 16, (.call ⟨(.value (.func 37)), #[(.tmp 15), (.const (.int .i64 0)), (.const (.int .i64 1))], #[22, 3, 3]⟩), 48, none⟩,
      ⟨some 10, (.move (.tmp 16)), 48, none⟩,
      ⟨some 17, (.extract (.tmp 10) 0), 4, none⟩,
      ⟨some 18, (.extract (.tmp 10) 1), 29, none⟩,
      ⟨some 1, (.assign (.tmp 17)), 4, none⟩,
      ⟨some 2, (.assign (.tmp 18)), 29, none⟩])
    (.seq (.reg [] [⟨some 20, (.buildSlice 23 2 #[(0, (.const (.int .i64 0))), (1, (.const (.int .i64 0)))]), 23, none⟩,
      ⟨some 21, (.buildSlice 23 2 #[(0, (.const (.int .i64 0))), (1, (.const (.int .i64 1)))]), 23, none⟩,
      ⟨some 22, (.buildSlice 23 2 #[(0, (.const (.int .i64 1))), (1, (.const (.int .i64 0)))]), 23, none⟩,
      ⟨some 23, (.buildSlice 22 3 #[(0, (.tmp 20)), (1, (.tmp 21)), (2, (.tmp 22))]), 22, none⟩,
      ⟨some 24, (.call ⟨(.value (.func 37)), #[(.tmp 23), (.const (.int .i64 0)), (.const (.int .i64 1))], #[22, 3, 3]⟩), 48, none⟩,
      ⟨some 19, (.move (.tmp 24)), 48, none⟩,
      ⟨some 25, (.extract (.tmp 19) 0), 4, none⟩,
      ⟨some 26, (.extract (.tmp 19) 1), 29, none⟩,
      ⟨some 3, (.assign (.tmp 25)), 4, none⟩,
      ⟨some 4, (.assign (.tmp 26)), 29, none⟩])
    (.seq (.reg [] [⟨some 28, (.buildSlice 23 1 #[(0, (.const (.int .i64 0)))]), 23, none⟩,
      ⟨some 29, (.buildSlice 23 1 #[(0, (.const (.int .i64 1)))]), 23, none⟩,
      ⟨some 30, (.buildSlice 22 2 #[(0, (.tmp 28)), (1, (.tmp 29))]), 22, none⟩,
      ⟨some 31, (.buildSlice 23 3 #[(0, (.const (.int .i64 (-1)))), (1, (.const (.int .i64 0))), (2, (.const (.int .i64 0)))]), 23, none⟩,
      ⟨some 32, (.buildSlice 23 2 #[(0, (.const (.int .i64 1))), (1, (.const (.int .i64 2)))]), 23, none⟩,
      ⟨some 33, (.build 25 #[(0, (.tmp 31)), (1, (.tmp 32))]), 25, none⟩,
      ⟨some 34, (.call ⟨(.value (.func 21)), #[(.tmp 30), (.tmp 33), (.const (.int .i64 0))], #[22, 25, 3]⟩), 30, none⟩,
      ⟨some 27, (.move (.tmp 34)), 30, none⟩,
      ⟨some 35, (.extract (.tmp 27) 0), 3, none⟩,
      ⟨some 36, (.extract (.tmp 27) 1), 4, none⟩,
      ⟨some 37, (.extract (.tmp 27) 2), 29, none⟩,
      ⟨some 5, (.assign (.tmp 35)), 3, none⟩,
      ⟨some 6, (.assign (.tmp 36)), 4, none⟩,
      ⟨some 7, (.assign (.tmp 37)), 29, none⟩])
    (.seq (.reg [] [⟨some 39, (.buildSlice 23 1 #[(0, (.const (.int .i64 0)))]), 23, none⟩,
      ⟨some 40, (.buildSlice 23 1 #[(0, (.const (.int .i64 1)))]), 23, none⟩,
      ⟨some 41, (.buildSlice 23 1 #[(0, (.const (.int .i64 2)))]), 23, none⟩,
      ⟨some 42, (.buildSlice 22 3 #[(0, (.tmp 39)), (1, (.tmp 40)), (2, (.tmp 41))]), 22, none⟩,
      ⟨some 43, (.call ⟨(.value (.func 23)), #[(.tmp 42), (.const (.int .i64 0))], #[22, 3]⟩), 32, none⟩,
      ⟨some 38, (.move (.tmp 43)), 32, none⟩,
      ⟨some 44, (.extract (.tmp 38) 0), 3, none⟩,
      ⟨some 45, (.extract (.tmp 38) 1), 29, none⟩,
      ⟨some 8, (.assign (.tmp 44)), 3, none⟩,
      ⟨some 9, (.assign (.tmp 45)), 29, none⟩])
    (.seq (.reg [] [⟨some 46, (.move (.tmp 2)), 29, none⟩,
      ⟨some 47, (.binOp .eql 29 (.tmp 46) (.const (.int .i64 0)) 29), 4, none⟩,
      ⟨some 48, (.move (.tmp 47)), 4, none⟩,
      ⟨some 49, (.move (.tmp 1)), 4, some (48, true)⟩,
      ⟨some 50, (.pick (.tmp 48) (.tmp 49) (.const (.bool false))), 4, none⟩,
      ⟨some 51, (.move (.tmp 50)), 4, none⟩,
      ⟨some 52, (.move (.tmp 4)), 29, some (51, true)⟩,
      ⟨some 53, (.binOp .eql 29 (.tmp 52) (.const (.int .i64 0)) 29), 4, some (51, true)⟩,
      ⟨some 54, (.pick (.tmp 51) (.tmp 53) (.const (.bool false))), 4, none⟩,
      ⟨some 55, (.move (.tmp 54)), 4, none⟩,
      ⟨some 56, (.move (.tmp 3)), 4, some (55, true)⟩,
      ⟨some 57, (.unOp .not 4 (.tmp 56)), 4, some (55, true)⟩,
      ⟨some 58, (.pick (.tmp 55) (.tmp 57) (.const (.bool false))), 4, none⟩,
      ⟨some 59, (.move (.tmp 58)), 4, none⟩,
      ⟨some 60, (.move (.tmp 7)), 29, some (59, true)⟩,
      ⟨some 61, (.binOp .eql 29 (.tmp 60) (.const (.int .i64 0)) 29), 4, some (59, true)⟩,
      ⟨some 62, (.pick (.tmp 59) (.tmp 61) (.const (.bool false))), 4, none⟩,
      ⟨some 63, (.move (.tmp 62)), 4, none⟩,
      ⟨some 64, (.move (.tmp 6)), 4, some (63, true)⟩,
      ⟨some 65, (.pick (.tmp 63) (.tmp 64) (.const (.bool false))), 4, none⟩,
      ⟨some 66, (.move (.tmp 65)), 4, none⟩,
      ⟨some 67, (.move (.tmp 5)), 3, some (66, true)⟩,
      ⟨some 68, (.binOp .eql 3 (.tmp 67) (.const (.int .i64 1)) 3), 4, some (66, true)⟩,
      ⟨some 69, (.pick (.tmp 66) (.tmp 68) (.const (.bool false))), 4, none⟩,
      ⟨some 70, (.move (.tmp 69)), 4, none⟩,
      ⟨some 71, (.move (.tmp 9)), 29, some (70, true)⟩,
      ⟨some 72, (.binOp .eql 29 (.tmp 71) (.const (.int .i64 0)) 29), 4, some (70, true)⟩,
      ⟨some 73, (.pick (.tmp 70) (.tmp 72) (.const (.bool false))), 4, none⟩,
      ⟨some 74, (.move (.tmp 73)), 4, none⟩,
      ⟨some 75, (.move (.tmp 8)), 3, some (74, true)⟩,
      ⟨some 76, (.binOp .eql 3 (.tmp 75) (.const (.int .i64 3)) 3), 4, some (74, true)⟩,
      ⟨some 77, (.pick (.tmp 74) (.tmp 76) (.const (.bool false))), 4, none⟩,
      ⟨some 0, (.assign (.tmp 77)), 4, none⟩])
    .ret))))))
theorem C20 {args : List AV} {r : AV} (hn : args.length ≤ 78) (h : vc Try.prog T [] A20 (Fin T [(.tmp 0)] r) ⟨envOf 0 args, []⟩) : CallP Try.prog 20 args r :=
  callP_of tok mixed Try.func20 (by kernel_rfl) (by kernel_rfl) (by kernel_rfl : Try.f20.ntmps = 78) (by kernel_rfl : Try.f20.body.bind (strip 78 (fun _ => [])) = some A20) hn h

end Go.Proofs.Ytnpkaemlidifgaa
end

section
/- Contracts: claimed readings; the sanity check; what is too long; equal lists. -/
namespace Go.Proofs.Ytnpkaemlidifgaa
open Go.Abs Go
set_option maxRecDepth 20000
set_option maxHeartbeats 2000000
attribute [local irreducible] PreK CondK CallK CallG CallX LoopK
attribute [local simp] avsEq avEq akind teq vkind vEq

/-! ### the law's own -/
theorem sane7_c : CallP Try.prog 20 [] (bv true) := by
  refine C20 (by simp) ?_
  have s1 : Sm [[0, 0], [0, 1], [1, 0], [1, 1]] := ⟨by decide, by decide⟩
  have s2 : Sm [[0, 0], [0, 1], [1, 0]] := ⟨by decide, by decide⟩
  have s3 : Sm [[0], [1]] := ⟨by decide, by decide⟩
  have s4 : Sm [[0], [1], [2]] := ⟨by decide, by decide⟩
  have c1 := Conflict_c _ 0 1 s1
  have c2 := Conflict_c _ 0 1 s2
  have c3 := Fewest_c _ [-1, 0, 0] [1, 2] 0 s3 (by decide) (by decide)
  have c4 := Different_c _ 0 s4
  have e1 : ConfR [[0, 0], [0, 1], [1, 0], [1, 1]] 0 1 = (true, 0) := by kernel_rfl
  have e2 : ConfR [[0, 0], [0, 1], [1, 0]] 0 1 = (false, 0) := by kernel_rfl
  have e3 : FewR [[0], [1]] [-1, 0, 0] [1, 2] 0 = (1, true, 0) := by kernel_rfl
  have e4 : DiffR [[0], [1], [2]] 0 = (3, 0) := by kernel_rfl
  rw [e1] at c1
  rw [e2] at c2
  rw [e3] at c3
  rw [e4] at c4
  simp [A20]
  refine CallX.pure (CallP.weak (by simpa [weakL, weak] using c1)) (by simp) (by simp) ?_
  try simp 
  refine CallX.pure (CallP.weak (by simpa [weakL, weak] using c2)) (by simp) (by simp) ?_
  try simp 
  refine CallX.pure (CallP.weak (by simpa [weakL, weak] using c3)) (by simp) (by simp) ?_
  try simp 
  refine CallX.pure (CallP.weak (by simpa [weakL, weak] using c4)) (by simp) (by simp) ?_
  try simp 
def longT (t : List (List Int)) : Bool := (t.any fun r => decide (50 < r.length)) || decide (50 < t.length)
theorem Long7_c (t : List (List Int)) (h : t.length ≤ big) : CallP Try.prog 18 [rdsV t] (bv (longT t)) := by
  refine C18 (by simp) ?_
  generalize hR : longT t = R
  unfold longT at hR
  simp only [big] at h
  simp [A18]
  refine LoopK.by (ι := Nat) (fun i => ⟨[(3, iv i), (0, rdsV t)], []⟩) (fun i => t.length - i) (fun i => i ≤ t.length ∧ (((t.drop i).any fun r => decide (50 < r.length)) || decide (50 < t.length)) = R) 0 ⟨Nat.zero_le _, hR⟩ (by simp) ?_
  intro i Q' ⟨hi, hc⟩ hq he hr
  try simp 
  refine CondK.intro (fun h1 => ?_) (fun h1 => ?_)
  · simp at h1
    rw [drop_cons t i h1, List.any_cons] at hc
    try simp [h1]
    repeat (refine PreK.intro (by first | omega | (intros; first | omega | (refine ⟨by omega, ?_⟩; simp_all; done) | (simp_all; done) | (simp_all; omega))) fun _ => ?_; (try simp [h1]))
    refine CondK.intro (fun h2 => ?_) (fun h2 => ?_)
    · have e : decide (50 < (el t i).length) = true := by simp at h2; simp; omega
      rw [e] at hc
      simp only [Bool.true_or] at hc
      subst hc
      try simp 
      apply hr
      try simp 
    · have e : decide (50 < (el t i).length) = false := by simp at h2; simp; omega
      rw [e] at hc
      simp only [Bool.false_or] at hc
      repeat (refine PreK.intro (by first | omega | (intros; first | omega | (refine ⟨by omega, ?_⟩; simp_all; done) | (simp_all; done) | (simp_all; omega))) fun _ => ?_; (try simp ))
      exact hq (i + 1) _ ⟨by omega, hc⟩ (by omega) (by simp)
  · simp at h1
    rw [List.drop_eq_nil_of_le (by omega)] at hc
    simp only [List.any_nil, Bool.false_or] at hc
    subst hc
    try simp 
    apply he
    try simp 
    try omega
theorem longT_small {t : List (List Int)} (h : longT t = false) : Sm t ∧ t.length ≤ 50 ∧ ∀ r ∈ t, r.length ≤ 50 := by
  unfold longT at h
  simp only [Bool.or_eq_false_iff, List.any_eq_false, decide_eq_true_eq, decide_eq_false_iff_not] at h
  exact ⟨⟨by omega, fun r hr => by have := h.1 r hr; omega⟩, by omega, fun r hr => by have := h.1 r hr; omega⟩
theorem same7_c (a b : List Int) (ha : a.length ≤ big) : CallP Try.prog 36 [ints a, ints b] (bv (decide (a = b))) := by
  refine C36 (by simp) ?_
  simp only [big] at ha
  generalize hR : decide (a = b) = R
  simp [A36]
  refine CondK.intro (fun h => ?_) (fun h => ?_)
  · simp at h
    have : a ≠ b := fun e => h (by rw [e])
    simp [this] at hR
    simp [hR]
  · simp at h
    try simp 
    refine LoopK.by (fun i : Nat => ⟨[(5, iv i), (0, ints a), (1, ints b)], []⟩) (fun i => a.length - i) (fun i => i ≤ a.length ∧ decide (a.drop i = b.drop i) = R) 0 (by simpa using hR) (by simp) ?_
    intro i Q' ⟨hi, hc⟩ hq he hr
    try simp 
    refine CondK.intro (fun h2 => ?_) (fun h2 => ?_)
    · simp at h2
      have h2b : i < b.length := by omega
      rw [drop_cons a i h2, drop_cons b i h2b] at hc
      try simp [h2, h2b]
      repeat (refine PreK.intro (by first | omega | (intros; first | omega | (refine ⟨by omega, ?_⟩; simp_all; done) | (simp_all; done) | (simp_all; omega))) fun _ => ?_; (try simp [h2, h2b]))
      refine CondK.intro (fun h3 => ?_) (fun h3 => ?_)
      · simp at h3
        simp [h3] at hc
        try simp 
        apply hr
        simp [hc]
      · simp at h3
        simp [h3] at hc
        repeat (refine PreK.intro (by first | omega | (intros; first | omega | (refine ⟨by omega, ?_⟩; simp_all; done) | (simp_all; done) | (simp_all; omega))) fun _ => ?_; (try simp ))
        exact hq (i + 1) _ ⟨by omega, by simpa using hc⟩ (by omega) (by simp)
    · simp at h2
      rw [List.drop_eq_nil_of_le (by omega), List.drop_eq_nil_of_le (by omega)] at hc
      simp at hc
      try simp 
      apply he
      simp [hc]
end Go.Proofs.Ytnpkaemlidifgaa
end

section
/- Contracts: slices.Delete of one element; a copy less; the statement StemmaLoses. -/
namespace Go.Proofs.Ytnpkaemlidifgaa
open Go.Abs Go
set_option maxRecDepth 20000
set_option maxHeartbeats 2000000
attribute [local irreducible] PreK CondK CallK CallG CallX LoopK
attribute [local simp] avsEq avEq akind teq vkind vEq

theorem erase_eq {α : Type} (l : List α) (i : Nat) : l.eraseIdx i = l.take i ++ l.drop (i + 1) := List.eraseIdx_eq_take_drop_succ l i
theorem del_fin {A D E : List AV} {n : Nat} (h : A.length + D.length = n - 1) (hE : E.length = 1) (hn : 1 ≤ n) {z : AV} :
    List.take (n - 1) (A ++ (D ++ E)) ++ (List.replicate (n - (n - 1)) z ++ List.drop n (A ++ (D ++ E))) = A ++ D ++ [z] := by
  have e1 : (A ++ D).length = n - 1 := by rw [List.length_append]; exact h
  have e2 : List.take (n - 1) (A ++ (D ++ E)) = A ++ D := by rw [← List.append_assoc, List.take_append_of_le_length (by omega), List.take_of_length_le (by omega)]
  have e3 : List.drop n (A ++ (D ++ E)) = [] := List.drop_eq_nil_of_le (by rw [← List.append_assoc, List.length_append]; omega)
  rw [e2, e3, show n - (n - 1) = 1 by omega, List.append_nil]
  rfl
theorem deleteW_L (l : List (List Int)) (i : Nat) (hi : i < l.length) (hl : l.length ≤ 1000) :
    CallL Try.prog 83 [] 1 (l.map ints) [iv (i : Int), iv ((i : Int) + 1)] (.part (l.length - 1)) ((l.eraseIdx i).map ints ++ [.seq 1 [] true]) := by
  refine CL83 (by simp) ?_
  simp [A83]
  have hrm : i + (l.length - (i + 1)) ≤ l.length := by omega
  have h1' : i + 1 + (l.length - (i + 1)) ≤ l.length := by omega
  have hs : i + (l.length - (i + 1)) = l.length - 1 := by omega
  have htk : List.take (l.length - (i + 1)) (List.drop (i + 1) (List.map ints l)) = List.drop (i + 1) (List.map ints l) := List.take_of_length_le (by simp)
  try simp [hi]
  repeat (refine PreK.intro (by first | omega | (intros; first | omega | (refine ⟨by omega, ?_⟩; simp_all; done) | (simp_all; done) | (simp_all; omega))) fun _ => ?_; (try simp [hi]))
  refine CondK.intro (fun h1 => ?_) (fun h1 => ?_)
  · simp at h1
    omega
  · try simp [hi, hrm, h1', htk, hs]
    repeat (refine PreK.intro (by first | omega | (intros; first | omega | (refine ⟨by omega, ?_⟩; simp_all; done) | (simp_all; done) | (simp_all; omega))) fun _ => ?_; (try simp [hi, hrm, h1', htk, hs]))
    have e1 : (List.take i (List.map ints l)).length = i := by simp; omega
    have e2 : (List.drop (i + 1) (List.map ints l)).length = l.length - (i + 1) := by simp
    have e3 : (List.drop (l.length - 1) (List.map ints l)).length = 1 := by simp; omega
    rw [del_fin (by omega) e3 (by omega), erase_eq, List.map_append, List.map_take, List.map_drop]
theorem frzL_app (b : Box) (id : Nat) : ∀ x y : List AV, frzL b id (x ++ y) = frzL b id x ++ frzL b id y
  | [], y => rfl
  | a :: x, y => by simp [frzL_app b id x y]
theorem frzL_ints (b : Box) (id : Nat) : ∀ l : List (List Int), frzL b id (l.map ints) = l.map ints
  | [] => rfl
  | a :: l => by rw [List.map_cons, frzL, frzL_ints b id l]; rfl
theorem frzL_tk (b : Box) (id i : Nat) (l : List (List Int)) : frzL b id (List.take i (l.map ints)) = List.take i (l.map ints) := by rw [← List.map_take, frzL_ints]
theorem frzL_rep (b : Box) (id : Nat) (e : List AV) (f : Bool) : ∀ n : Nat, frzL b id (List.replicate n (.seq 1 e f)) = List.replicate n (.seq 1 e f)
  | 0 => rfl
  | n + 1 => by rw [List.replicate_succ, frzL, frzL_rep b id e f n]; rfl
theorem refsL_app : ∀ x y : List AV, AV.refsL (x ++ y) = AV.refsL x ++ AV.refsL y
  | [], y => rfl
  | a :: x, y => by simp [refsL_app x y]
theorem refsL_ints : ∀ l : List (List Int), AV.refsL (l.map ints) = []
  | [] => rfl
  | a :: l => by rw [List.map_cons, AV.refsL, refsL_ints l]; rfl
theorem refsL_tk (i : Nat) (l : List (List Int)) : AV.refsL (List.take i (l.map ints)) = [] := by rw [← List.map_take, refsL_ints]
theorem refsL_rep (e : List AV) (f : Bool) : ∀ n : Nat, AV.refsL (List.replicate n (.seq 1 e f)) = []
  | 0 => rfl
  | n + 1 => by rw [List.replicate_succ, AV.refsL, refsL_rep e f n]; rfl
theorem copied_o (l : List (List Int)) (hl : l.length ≤ 1000) (hw : ∀ i, (el l i).length ≤ 1000) : CallO Try.prog 84 [rdsV l] 1 (l.map ints) := by
  refine CO84 (by simp) ?_
  simp [A84]
  try simp 
  repeat (refine PreK.intro (by first | omega | (intros; first | omega | (refine ⟨by omega, ?_⟩; simp_all; done) | (simp_all; done) | (simp_all; omega))) fun _ => ?_; (try simp ))
  refine LoopK.byF (ι := Nat) (fun i => ⟨[(11, iv i), (10, iv l.length), (9, rdsV l), (3, .sl 8 1 0 l.length)], [(8, some ⟨1, (l.take i).map ints ++ List.replicate (l.length - i) (.seq 1 [] true), 1, true⟩)]⟩) (fun i => l.length - i) (fun i => i ≤ l.length) 0 (Nat.zero_le _) (by simp [leEls_refl, refsL_rep]) ?_
  intro i Q' hi hq he hr hfz
  try simp 
  refine CondK.intro (fun h1 => ?_) (fun h1 => ?_)
  · simp at h1
    have hw1 := hw i
    have hset : ∀ v : AV, (List.take i (List.map ints l) ++ List.replicate (l.length - i) (AV.seq 1 [] true)).set i v = List.take i (List.map ints l) ++ v :: List.replicate (l.length - (i + 1)) (AV.seq 1 [] true) := by
      intro v
      have e : l.length - i = (l.length - (i + 1)) + 1 := by omega
      have e2 : (List.take i (List.map ints l)).length = i := by simp; omega
      rw [e, List.replicate_succ, List.set_append_right _ _ (by omega), e2, Nat.sub_self]
      rfl
    have hnt : ∀ (v : AV) (r : List AV), nth (List.take i (List.map ints l) ++ v :: r) i = v := by
      intro v r
      have e2 : (List.take i (List.map ints l)).length = i := by simp; omega
      unfold nth
      rw [List.getD_eq_getElem?_getD, List.getElem?_append_right (by omega), e2, Nat.sub_self]
      rfl
    have hnt0 : nth (List.take i (List.map ints l) ++ List.replicate (l.length - i) (AV.seq 1 [] true)) i = .seq 1 [] true := by
      have e : l.length - i = (l.length - (i + 1)) + 1 := by omega
      rw [e, List.replicate_succ, hnt]
    have hlt : i < min i l.length + (l.length - i) := by omega
    have hlt2 : i < min i l.length + (l.length - (i + 1) + 1) := by omega
    try simp [h1, hset, hnt, hnt0, hlt, hlt2]
    repeat (refine PreK.intro (by first | omega | (intros; first | omega | (refine ⟨by omega, ?_⟩; simp_all; done) | (simp_all; done) | (simp_all; omega))) fun _ => ?_; (try simp [h1, hset, hnt, hnt0, hlt, hlt2]))
    refine hfz 20 ⟨1, (el l i).map iv, 1, false⟩ _ (by simp) (by simp) ?_
    have htk : List.take (i + 1) (List.map ints l) = List.take i (List.map ints l) ++ [AV.seq 1 (List.map iv (el l i)) false] := by
      rw [← List.map_take, take_succ l i h1, List.map_append, List.map_take]; rfl
    simp [frzL_app, frzL_tk, frzL_rep]
    exact hq (i + 1) _ (by omega) (by omega) (by simp [htk, leEls_refl, refsL_rep, refsL_app, refsL_tk])
  · simp at h1
    have : i = l.length := by omega
    subst this
    try simp 
    apply he
    try simp [refsL_ints]
    repeat (refine PreK.intro (by first | omega | (intros; first | omega | (refine ⟨by omega, ?_⟩; simp_all; done) | (simp_all; done) | (simp_all; omega))) fun _ => ?_; (try simp [refsL_ints]))
/-! ### a copy less -/
def LoseR (t : List (List Int)) (i : Int) : List (List Int) × Int := if copyErr t i ≠ 0 then ([], copyErr t i) else if t.length = 1 then ([], 1) else (loseM t i.toNat, 0)
theorem Lose_c (t : List (List Int)) (i : Int) (h : Sm t) : CallP Try.prog 49 [rdsV t, iv i] (.tup [rdsV (LoseR t i).1, iv (LoseR t i).2]) := by
  refine C49 (by simp) ?_
  have hv := Validate_c t h
  have hn := h.num
  generalize hR : LoseR t i = R
  unfold LoseR at hR
  simp [A49]
  try simp 
  repeat' (first
    | (refine CallX.pure (hv) (by simp) (by simp) ?_; try simp )
    | (refine CallK.intro (hv) (by simp) (by simp) ?_; try simp )
    | (refine CallG.intro (fun _ => hv) (by simp) (by simp) ?_; try simp )
    | ((with_reducible refine PreK.intro ?_ ?_); (next => (first | omega | (intros; first | omega | (refine ⟨by omega, ?_⟩; repeat (first | assumption | constructor)) | assumption))); intro _; try simp )
    | fail)
  refine CondK.intro (fun h1 => ?_) (fun h1 => ?_)
  · simp at h1
    have e : copyErr t i = vErr t := by unfold copyErr; rw [if_pos h1]
    rw [e, if_pos h1] at hR
    subst hR
    try simp 
    repeat (refine PreK.intro (by first | omega | (intros; first | omega | (refine ⟨by omega, ?_⟩; simp_all; done) | (simp_all; done) | (simp_all; omega))) fun _ => ?_; (try simp ))
  · simp at h1
    have hw := swithin_c i 0 ((t.length : Int) - 1)
    try simp 
    repeat' (first
      | (refine CallX.pure (hw) (by simp) (by simp) ?_; try simp )
      | (refine CallK.intro (hw) (by simp) (by simp) ?_; try simp )
      | (refine CallG.intro (fun _ => hw) (by simp) (by simp) ?_; try simp )
      | ((with_reducible refine PreK.intro ?_ ?_); (next => (first | omega | (intros; first | omega | (refine ⟨by omega, ?_⟩; repeat (first | assumption | constructor)) | assumption))); intro _; try simp )
      | fail)
    refine CondK.intro (fun h5 => ?_) (fun h5 => ?_)
    · simp at h5
      have e : copyErr t i = 4 := by unfold copyErr; rw [if_neg (by simpa using h1), if_neg (by simp; omega)]
      rw [e, if_pos (by decide)] at hR
      subst hR
      try simp 
      repeat (refine PreK.intro (by first | omega | (intros; first | omega | (refine ⟨by omega, ?_⟩; simp_all; done) | (simp_all; done) | (simp_all; omega))) fun _ => ?_; (try simp ))
    · simp at h5
      have e : copyErr t i = 0 := by unfold copyErr; rw [if_neg (by simpa using h1), if_pos (by simp; omega)]
      rw [e, if_neg (by decide)] at hR
      try simp 
      repeat (refine PreK.intro (by first | omega | (intros; first | omega | (refine ⟨by omega, ?_⟩; simp_all; done) | (simp_all; done) | (simp_all; omega))) fun _ => ?_; (try simp ))
      refine CondK.intro (fun h6 => ?_) (fun h6 => ?_)
      · simp at h6
        have h6' : t.length = 1 := by omega
        rw [if_pos h6'] at hR
        subst hR
        try simp 
        repeat (refine PreK.intro (by first | omega | (intros; first | omega | (refine ⟨by omega, ?_⟩; simp_all; done) | (simp_all; done) | (simp_all; omega))) fun _ => ?_; (try simp ))
      · simp at h6
        have h6' : ¬ t.length = 1 := by omega
        rw [if_neg h6'] at hR
        subst hR
        obtain ⟨k, rfl⟩ := Int.eq_ofNat_of_zero_le (show 0 ≤ i by omega)
        have hk : k < t.length := by omega
        have hd := deleteW_L t k hk (by omega)
        try simp 
        repeat (refine PreK.intro (by first | omega | (intros; first | omega | (refine ⟨by omega, ?_⟩; simp_all; done) | (simp_all; done) | (simp_all; omega))) fun _ => ?_; (try simp ))
        refine CallX.own (by simpa using copied_o t (by omega) (fun j => by have := h.el j; omega)) (by simp) (by simp) ?_
        try simp 
        repeat (refine PreK.intro (by first | omega | (intros; first | omega | (refine ⟨by omega, ?_⟩; simp_all; done) | (simp_all; done) | (simp_all; omega))) fun _ => ?_; (try simp ))
        refine CallX.lend [] (id := 22) (ver := 1) (n := t.length) (b := ⟨1, t.map ints, 1, false⟩) [iv (k : Int), iv ((k : Int) + 1)] (.part (t.length - 1)) _ (by simp) (by simp) (by simp) (by simp) (by simp) (by simp) (by simp) (by simpa using hd) ?_
        have hel : (t.eraseIdx k).length = t.length - 1 := List.length_eraseIdx_of_lt hk
        have hrg : List.take (t.length - 1) (List.map ints (t.eraseIdx k) ++ [AV.seq 1 [] true]) = List.map ints (t.eraseIdx k) := by
          rw [List.take_append_of_le_length (by rw [List.length_map]; omega), List.take_of_length_le (by rw [List.length_map]; omega)]
        try simp [hrg, loseM]
        repeat (refine PreK.intro (by first | omega | (intros; first | omega | (refine ⟨by omega, ?_⟩; simp_all; done) | (simp_all; done) | (simp_all; omega))) fun _ => ?_; (try simp [hrg, loseM]))
theorem same07_c (a b : List (List Int)) (ha : a.length ≤ big) (hw : ∀ x ∈ a, x.length ≤ big) : CallP Try.prog 46 [rdsV a, rdsV b] (bv (decide (a = b))) := by
  refine C46 (by simp) ?_
  generalize hR : decide (a = b) = R
  simp only [big] at ha
  simp [A46]
  refine CondK.intro (fun h => ?_) (fun h => ?_)
  · simp at h
    have : a ≠ b := fun e => h (by rw [e])
    simp [this] at hR
    simp [hR]
  · simp at h
    try simp 
    refine LoopK.by (fun i : Nat => ⟨[(5, iv i), (0, rdsV a), (1, rdsV b)], []⟩) (fun i => a.length - i) (fun i => i ≤ a.length ∧ decide (a.drop i = b.drop i) = R) 0 (by simpa using hR) (by simp) ?_
    intro i Q' ⟨hi, hc⟩ hq he hr
    try simp 
    refine CondK.intro (fun h2 => ?_) (fun h2 => ?_)
    · simp at h2
      have h2b : i < b.length := by omega
      have hs := same7_c (el a i) (el b i) (hw _ (el_mem_of a i h2))
      rw [drop_cons a i h2, drop_cons b i h2b] at hc
      repeat (refine PreK.intro (by first | omega | (intros; first | omega | (refine ⟨by omega, ?_⟩; simp_all; done) | (simp_all; done) | (simp_all; omega))) fun _ => ?_; (try simp [h2, h2b]))
      refine CallK.intro (by simpa using hs) (by simp) (by simp) ?_
      try simp 
      repeat (refine PreK.intro (by first | omega | (intros; first | omega | (refine ⟨by omega, ?_⟩; simp_all; done) | (simp_all; done) | (simp_all; omega))) fun _ => ?_; (try simp ))
      refine CondK.intro (fun h3 => ?_) (fun h3 => ?_)
      · simp at h3
        simp [h3] at hc
        try simp 
        apply hr
        simp [hc]
      · simp at h3
        simp [h3] at hc
        repeat (refine PreK.intro (by first | omega | (intros; first | omega | (refine ⟨by omega, ?_⟩; simp_all; done) | (simp_all; done) | (simp_all; omega))) fun _ => ?_; (try simp ))
        exact hq (i + 1) _ ⟨by omega, by simpa using hc⟩ (by omega) (by simp)
    · simp at h2
      rw [List.drop_eq_nil_of_le (by omega), List.drop_eq_nil_of_le (by omega)] at hc
      simp at hc
      try simp 
      apply he
      simp [hc]
theorem erase_step {t : List (List Int)} {k i : Nat} (hi : i < t.length) : (t.take (i + 1)).eraseIdx k = if i = k then (t.take i).eraseIdx k else (t.take i).eraseIdx k ++ [el t i] := by
  have e1 : (t.take i).length = i := by rw [List.length_take]; omega
  rw [take_succ t i hi]
  by_cases e : i = k
  · subst e
    have e2 : (t.take i).length ≤ i := by omega
    rw [if_pos rfl, List.eraseIdx_append_of_length_le e2, e1, Nat.sub_self, List.eraseIdx_of_length_le e2]
    simp
  · rw [if_neg e]
    by_cases h2 : k < i
    · rw [List.eraseIdx_append_of_lt_length (by omega)]
    · have e2 : (t.take i).length ≤ k := by omega
      have e3 : (t.take i ++ [el t i]).length ≤ k := by rw [List.length_append, e1]; simp only [List.length_cons, List.length_nil]; omega
      rw [List.eraseIdx_of_length_le e2, List.eraseIdx_of_length_le e3]
theorem rLose_c (t : List (List Int)) (i : Int) (h : Sm t) : CallP Try.prog 50 [rdsV t, iv i] (.tup [rdsV (LoseR t i).1, iv (LoseR t i).2]) := by
  refine C50 (by simp) ?_
  have hv := rcopied_c t i h
  have hn := h.num
  generalize hR : LoseR t i = R
  unfold LoseR at hR
  simp [A50]
  try simp 
  repeat' (first
    | (refine CallX.pure (hv) (by simp) (by simp) ?_; try simp )
    | (refine CallK.intro (hv) (by simp) (by simp) ?_; try simp )
    | (refine CallG.intro (fun _ => hv) (by simp) (by simp) ?_; try simp )
    | ((with_reducible refine PreK.intro ?_ ?_); (next => (first | omega | (intros; first | omega | (refine ⟨by omega, ?_⟩; repeat (first | assumption | constructor)) | assumption))); intro _; try simp )
    | fail)
  refine CondK.intro (fun h1 => ?_) (fun h1 => ?_)
  · simp at h1
    rw [if_pos (by simpa using h1)] at hR
    subst hR
    try simp 
    repeat (refine PreK.intro (by first | omega | (intros; first | omega | (refine ⟨by omega, ?_⟩; simp_all; done) | (simp_all; done) | (simp_all; omega))) fun _ => ?_; (try simp ))
  · simp at h1
    rw [if_neg (by simpa using h1)] at hR
    have hr : vErr t = 0 ∧ 0 ≤ i ∧ i ≤ (t.length : Int) - 1 := by
      unfold copyErr at h1
      split at h1
      · rename_i h2; exact absurd h1 h2
      · rename_i h2
        split at h1
        · rename_i h3
          simp at h3
          exact ⟨by simpa using h2, h3.1, h3.2⟩
        · cases h1
    obtain ⟨hv0, hi0, hi1⟩ := hr
    have hrd := vErr_zero hv0
    try simp 
    repeat (refine PreK.intro (by first | omega | (intros; first | omega | (refine ⟨by omega, ?_⟩; simp_all; done) | (simp_all; done) | (simp_all; omega))) fun _ => ?_; (try simp ))
    refine CondK.intro (fun h6 => ?_) (fun h6 => ?_)
    · simp at h6
      have h6' : t.length = 1 := by omega
      rw [if_pos h6'] at hR
      subst hR
      try simp 
      repeat (refine PreK.intro (by first | omega | (intros; first | omega | (refine ⟨by omega, ?_⟩; simp_all; done) | (simp_all; done) | (simp_all; omega))) fun _ => ?_; (try simp ))
    · simp at h6
      have h6' : ¬ t.length = 1 := by omega
      rw [if_neg h6'] at hR
      subst hR
      obtain ⟨k, rfl⟩ := Int.eq_ofNat_of_zero_le hi0
      rw [Int.toNat_natCast]
      try simp 
      repeat (refine PreK.intro (by first | omega | (intros; first | omega | (refine ⟨by omega, ?_⟩; simp_all; done) | (simp_all; done) | (simp_all; omega))) fun _ => ?_; (try simp ))
      refine LoopK.by (ι := Nat × Nat × List (List Int)) (fun x => ⟨[(8, iv x.1), (7, .sl 7 x.2.1 0 x.2.2.length), (0, rdsV t), (1, iv (k : Int))], [(7, some ⟨1, x.2.2.map ints, x.2.1, false⟩)]⟩) (fun x => t.length - x.1)
        (fun x => x.1 ≤ t.length ∧ x.2.2.length ≤ x.1 ∧ x.2.2 = (t.take x.1).eraseIdx k) (0, 1, []) ⟨Nat.zero_le _, by simp, by simp⟩ (by simp) ?_
      intro ⟨i, v, out⟩ Q' ⟨hi, hol, ho⟩ hq he hr
      dsimp only at hi hol ho
      try simp 
      refine CondK.intro (fun h7 => ?_) (fun h7 => ?_)
      · simp at h7
        have hst := erase_step (k := k) h7
        have hw := h.el i
        try simp [h7]
        repeat (refine PreK.intro (by first | omega | (intros; first | omega | (refine ⟨by omega, ?_⟩; simp_all; done) | (simp_all; done) | (simp_all; omega))) fun _ => ?_; (try simp [h7]))
        refine CondK.intro (fun h8 => ?_) (fun h8 => ?_)
        · simp at h8
          have h8' : ¬ i = k := by omega
          rw [if_neg h8'] at hst
          by_cases h0 : (el t i).length = 0
          · have h0' : el t i = [] := List.eq_nil_of_length_eq_zero h0
            try simp [h7, h0']
            repeat (refine PreK.intro (by first | omega | (intros; first | omega | (refine ⟨by omega, ?_⟩; simp_all; done) | (simp_all; done) | (simp_all; omega))) fun _ => ?_; (try simp [h7, h0']))
            exact hq (i + 1, v + 1, out ++ [el t i]) _ ⟨by dsimp only; omega, by simp; omega, by rw [ho, hst]⟩ (by dsimp only; omega) (by simp [h0'])
          · have h0' : ¬ el t i = [] := fun e => h0 (by rw [e]; rfl)
            try simp [h7, h0']
            repeat (refine PreK.intro (by first | omega | (intros; first | omega | (refine ⟨by omega, ?_⟩; simp_all; done) | (simp_all; done) | (simp_all; omega))) fun _ => ?_; (try simp [h7, h0']))
            exact hq (i + 1, v + 1, out ++ [el t i]) _ ⟨by dsimp only; omega, by simp; omega, by rw [ho, hst]⟩ (by dsimp only; omega) (by simp)
        · simp at h8
          have h8' : i = k := by omega
          rw [if_pos h8'] at hst
          try simp 
          repeat (refine PreK.intro (by first | omega | (intros; first | omega | (refine ⟨by omega, ?_⟩; simp_all; done) | (simp_all; done) | (simp_all; omega))) fun _ => ?_; (try simp ))
          exact hq (i + 1, v, out) _ ⟨by dsimp only; omega, by dsimp only; omega, by rw [ho, hst]⟩ (by dsimp only; omega) (by simp)
      · simp at h7
        have : i = t.length := by omega
        subst this
        rw [List.take_length] at ho
        try simp 
        apply he
        try simp [ho, loseM]
        repeat (refine PreK.intro (by first | omega | (intros; first | omega | (refine ⟨by omega, ?_⟩; simp_all; done) | (simp_all; done) | (simp_all; omega))) fun _ => ?_; (try simp [ho, loseM]))
        done
/-! ### the law -/
theorem lawStemmaLoses_c (t : List (List Int)) (i : Int) (hb : t.length ≤ big) : CallP Try.prog 12 [rdsV t, iv i] (bv true) := by
  refine C12 (by simp) ?_
  have hlg := Long7_c t hb
  simp [A12]
  try simp 
  repeat' (first
    | (refine CallX.pure (hlg) (by simp) (by simp) ?_; try simp )
    | (refine CallK.intro (hlg) (by simp) (by simp) ?_; try simp )
    | (refine CallG.intro (fun _ => hlg) (by simp) (by simp) ?_; try simp )
    | ((with_reducible refine PreK.intro ?_ ?_); (next => (first | omega | (intros; first | omega | (refine ⟨by omega, ?_⟩; repeat (first | assumption | constructor)) | assumption))); intro _; try simp )
    | fail)
  cases hL : longT t with
  | true =>
    refine CondK.tt ?_
    try simp 
    try simp 
    repeat' (first
      | (refine CallX.pure (sane7_c) (by simp) (by simp) ?_; try simp )
      | (refine CallK.intro (sane7_c) (by simp) (by simp) ?_; try simp )
      | (refine CallG.intro (fun _ => sane7_c) (by simp) (by simp) ?_; try simp )
      | ((with_reducible refine PreK.intro ?_ ?_); (next => (first | omega | (intros; first | omega | (refine ⟨by omega, ?_⟩; repeat (first | assumption | constructor)) | assumption))); intro _; try simp )
      | fail)
  | false =>
    refine CondK.ff ?_
    try simp 
    obtain ⟨hs, h50, hw50⟩ := longT_small hL
    have c1 := Lose_c t i hs
    have c2 := rLose_c t i hs
    have hsub : ∀ x ∈ (LoseR t i).1, x ∈ t := by
      intro x hx
      unfold LoseR at hx
      split at hx
      · cases hx
      · split at hx
        · cases hx
        · exact List.mem_of_mem_eraseIdx hx
    have hlen : (LoseR t i).1.length ≤ t.length := by
      unfold LoseR
      split
      · simp
      · split
        · simp
        · exact List.length_eraseIdx_le t i.toNat
    have hs2 : Sm (LoseR t i).1 := ⟨by have := hs.num; omega, fun r hr => hs.row r (hsub r hr)⟩
    have c3 := same07_c (LoseR t i).1 (LoseR t i).1 (by have := hs2.num; simp only [big]; omega) (fun x hx => by have := hs2.row x hx; simp only [big]; omega)
    have c4 := Conflicts_c t hs
    have c5 := Conflicts_c (LoseR t i).1 hs2
    have hzero : (LoseR t i).2 = 0 → vErr t = 0 ∧ 0 ≤ i ∧ i.toNat < t.length ∧ 2 ≤ t.length ∧ (LoseR t i).1 = loseM t i.toNat := by
      intro h0
      unfold LoseR at h0 ⊢
      split at h0
      · rename_i h1; exact absurd h0 h1
      · rename_i h1
        split at h0
        · cases h0
        · rename_i h2
          rw [if_neg h1, if_neg h2]
          unfold copyErr at h1
          split at h1
          · rename_i h3; exact absurd h3 (by simpa using h1)
          · rename_i h3
            split at h1
            · rename_i h4
              simp at h4
              have := (vErr_zero (by simpa using h3)).pos
              exact ⟨by simpa using h3, h4.1, by omega, by omega, rfl⟩
            · exact absurd (by decide) h1
    generalize hG : LoseR t i = G at *
    obtain ⟨l, e⟩ := G
    dsimp only at *
    try simp 
    repeat' (first
      | (refine CallX.pure (c1) (by simp) (by simp) ?_; try simp )
      | (refine CallK.intro (c1) (by simp) (by simp) ?_; try simp )
      | (refine CallG.intro (fun _ => c1) (by simp) (by simp) ?_; try simp )
      | (refine CallX.pure (c2) (by simp) (by simp) ?_; try simp )
      | (refine CallK.intro (c2) (by simp) (by simp) ?_; try simp )
      | (refine CallG.intro (fun _ => c2) (by simp) (by simp) ?_; try simp )
      | ((with_reducible refine PreK.intro ?_ ?_); (next => (first | omega | (intros; first | omega | (refine ⟨by omega, ?_⟩; repeat (first | assumption | constructor)) | assumption))); intro _; try simp )
      | fail)
    try simp 
    repeat' (first
      | (refine CallX.pure (c3) (by simp) (by simp) ?_; try simp )
      | (refine CallK.intro (c3) (by simp) (by simp) ?_; try simp )
      | (refine CallG.intro (fun _ => c3) (by simp) (by simp) ?_; try simp )
      | ((with_reducible refine PreK.intro ?_ ?_); (next => (first | omega | (intros; first | omega | (refine ⟨by omega, ?_⟩; repeat (first | assumption | constructor)) | assumption))); intro _; try simp )
      | fail)
    refine CondK.ff ?_
    try simp 
    try simp 
    repeat (refine PreK.intro (by first | omega | (intros; first | omega | (refine ⟨by omega, ?_⟩; simp_all; done) | (simp_all; done) | (simp_all; omega))) fun _ => ?_; (try simp ))
    by_cases h0 : e = 0
    · subst h0
      obtain ⟨hv, hi0, hil, h2, rfl⟩ := hzero rfl
      have hrd := vErr_zero hv
      obtain ⟨hrd2, hwid⟩ := lose_rds hrd hil h2
      refine CondK.ff ?_
      try simp 
      try simp 
      repeat (refine PreK.intro (by first | omega | (intros; first | omega | (refine ⟨by omega, ?_⟩; simp_all; done) | (simp_all; done) | (simp_all; omega))) fun _ => ?_; (try simp ))
      have hpos : 0 < t.length := by have := hrd.pos; omega
      have hw6 := hrd.w6
      refine LoopK.by (ι := Nat) (fun p => ⟨[(9, iv p), (5, rdsV (loseM t i.toNat)), (0, rdsV t)], []⟩) (fun p => wid t - p) (fun p => p ≤ wid t ∧ ∀ q, q < p → diffN (colM t q) ≤ 2) 0 ⟨Nat.zero_le _, fun q hq => absurd hq (Nat.not_lt_zero q)⟩ (by simp) ?_
      intro p Q' ⟨hp, hd⟩ hq he hr
      have hw : (el t 0).length = wid t := rfl
      try simp [hpos, hw]
      repeat (refine PreK.intro (by first | omega | (intros; first | omega | (refine ⟨by omega, ?_⟩; simp_all; done) | (simp_all; done) | (simp_all; omega))) fun _ => ?_; (try simp [hpos, hw]))
      refine CondK.intro (fun h3 => ?_) (fun h3 => ?_)
      · simp at h3
        have hpl : placedErr t [(p : Int)] = 0 := by
          unfold placedErr
          rw [if_neg (by simpa using hv)]
          simp [noPlace]
          omega
        have hD : DiffR t p = (((diffN (colM t p) : Nat) : Int), 0) := by
          unfold DiffR
          rw [hpl, if_neg (by decide), Int.toNat_natCast]
        have c6 := Different_c t p hs
        rw [hD] at c6
        dsimp only at c6
        try simp 
        repeat (refine PreK.intro (by first | omega | (intros; first | omega | (refine ⟨by omega, ?_⟩; simp_all; done) | (simp_all; done) | (simp_all; omega))) fun _ => ?_; (try simp ))
        try simp 
        repeat' (first
          | (refine CallX.pure (c6) (by simp) (by simp) ?_; try simp )
          | (refine CallK.intro (c6) (by simp) (by simp) ?_; try simp )
          | (refine CallG.intro (fun _ => c6) (by simp) (by simp) ?_; try simp )
          | ((with_reducible refine PreK.intro ?_ ?_); (next => (first | omega | (intros; first | omega | (refine ⟨by omega, ?_⟩; repeat (first | assumption | constructor)) | assumption))); intro _; try simp )
          | fail)
        refine CondK.ff ?_
        try simp 
        try simp 
        repeat (refine PreK.intro (by first | omega | (intros; first | omega | (refine ⟨by omega, ?_⟩; simp_all; done) | (simp_all; done) | (simp_all; omega))) fun _ => ?_; (try simp ))
        by_cases h5 : diffN (colM t p) ≤ 2
        · have h5' : ¬ (2 : Int) < diffN (colM t p) := by omega
          have h5'' : ¬ 2 < diffN (colM t p) := by omega
          try simp [h5', h5'']
          repeat (refine PreK.intro (by first | omega | (intros; first | omega | (refine ⟨by omega, ?_⟩; simp_all; done) | (simp_all; done) | (simp_all; omega))) fun _ => ?_; (try simp [h5', h5'']))
          refine CondK.ff ?_
          try simp 
          try simp 
          repeat (refine PreK.intro (by first | omega | (intros; first | omega | (refine ⟨by omega, ?_⟩; simp_all; done) | (simp_all; done) | (simp_all; omega))) fun _ => ?_; (try simp ))
          refine hq (p + 1) _ ⟨by omega, fun q hq' => ?_⟩ (by omega) (by simp)
          by_cases e : q = p
          · rw [e]; exact h5
          · exact hd q (by omega)
        · have h5' : (2 : Int) < diffN (colM t p) := by omega
          have h5'' : 2 < diffN (colM t p) := by omega
          try simp [h5', h5'']
          repeat (refine PreK.intro (by first | omega | (intros; first | omega | (refine ⟨by omega, ?_⟩; simp_all; done) | (simp_all; done) | (simp_all; omega))) fun _ => ?_; (try simp [h5', h5'']))
          refine CondK.tt ?_
          try simp 
          try simp 
          repeat' (first
            | (refine CallX.pure (sane7_c) (by simp) (by simp) ?_; try simp )
            | (refine CallK.intro (sane7_c) (by simp) (by simp) ?_; try simp )
            | (refine CallG.intro (fun _ => sane7_c) (by simp) (by simp) ?_; try simp )
            | ((with_reducible refine PreK.intro ?_ ?_); (next => (first | omega | (intros; first | omega | (refine ⟨by omega, ?_⟩; repeat (first | assumption | constructor)) | assumption))); intro _; try simp )
            | fail)
          apply hr
          try simp 
          repeat (refine PreK.intro (by first | omega | (intros; first | omega | (refine ⟨by omega, ?_⟩; simp_all; done) | (simp_all; done) | (simp_all; omega))) fun _ => ?_; (try simp ))
      · simp at h3
        have hpw : p = wid t := by omega
        subst hpw
        have hle := lose_confs hrd hil h2 hd
        have hle' : ((confsM (loseM t i.toNat)).length : Int) ≤ (confsM t).length := by omega
        have hz2 : vErr (loseM t i.toNat) = 0 := by
          unfold vErr
          have n1 := hrd2.pos
          have n2 := hrd2.num
          have n3 := hrd2.w6
          unfold wid at n3
          rw [if_neg (by omega), if_neg (by omega), if_neg ?_]
          simp only [List.any_eq_true, not_exists, not_and]
          intro r hr hbad
          unfold rowBad at hbad
          simp only [Bool.or_eq_true, decide_eq_true_eq, List.any_eq_true] at hbad
          rcases hbad with h | ⟨x, hx, h⟩
          · exact h (hrd2.rows r hr)
          · have := hrd2.rd r hr x hx
            unfold okR at h
            simp at h
            omega
        have e4 : ConfsR t = (confsM t, 0) := by unfold ConfsR; rw [if_neg (by simpa using hv)]
        have e5 : ConfsR (loseM t i.toNat) = (confsM (loseM t i.toNat), 0) := by unfold ConfsR; rw [if_neg (by simpa using hz2)]
        rw [e4] at c4
        rw [e5] at c5
        dsimp only at c4 c5
        try simp 
        apply he
        try simp 
        repeat (refine PreK.intro (by first | omega | (intros; first | omega | (refine ⟨by omega, ?_⟩; simp_all; done) | (simp_all; done) | (simp_all; omega))) fun _ => ?_; (try simp ))
        try simp 
        repeat' (first
          | (refine CallX.pure (c4) (by simp) (by simp) ?_; try simp )
          | (refine CallK.intro (c4) (by simp) (by simp) ?_; try simp )
          | (refine CallG.intro (fun _ => c4) (by simp) (by simp) ?_; try simp )
          | (refine CallX.pure (c5) (by simp) (by simp) ?_; try simp )
          | (refine CallK.intro (c5) (by simp) (by simp) ?_; try simp )
          | (refine CallG.intro (fun _ => c5) (by simp) (by simp) ?_; try simp )
          | ((with_reducible refine PreK.intro ?_ ?_); (next => (first | omega | (intros; first | omega | (refine ⟨by omega, ?_⟩; repeat (first | assumption | constructor)) | assumption))); intro _; try simp )
          | fail)
        try simp [hle, hle']
        repeat (refine PreK.intro (by first | omega | (intros; first | omega | (refine ⟨by omega, ?_⟩; simp_all; done) | (simp_all; done) | (simp_all; omega))) fun _ => ?_; (try simp [hle, hle']))
        try simp [hle, hle']
        repeat' (first
          | (refine CallX.pure (sane7_c) (by simp) (by simp) ?_; try simp [hle, hle'])
          | (refine CallK.intro (sane7_c) (by simp) (by simp) ?_; try simp [hle, hle'])
          | (refine CallG.intro (fun _ => sane7_c) (by simp) (by simp) ?_; try simp [hle, hle'])
          | ((with_reducible refine PreK.intro ?_ ?_); (next => (first | omega | (intros; first | omega | (refine ⟨by omega, ?_⟩; repeat (first | assumption | constructor)) | assumption))); intro _; try simp [hle, hle'])
          | fail)
        done
    · try simp [h0]
      repeat (refine PreK.intro (by first | omega | (intros; first | omega | (refine ⟨by omega, ?_⟩; simp_all; done) | (simp_all; done) | (simp_all; omega))) fun _ => ?_; (try simp [h0]))
      refine CondK.tt ?_
      try simp 
      try simp 
      repeat' (first
        | (refine CallX.pure (sane7_c) (by simp) (by simp) ?_; try simp )
        | (refine CallK.intro (sane7_c) (by simp) (by simp) ?_; try simp )
        | (refine CallG.intro (fun _ => sane7_c) (by simp) (by simp) ?_; try simp )
        | ((with_reducible refine PreK.intro ?_ ?_); (next => (first | omega | (intros; first | omega | (refine ⟨by omega, ?_⟩; repeat (first | assumption | constructor)) | assumption))); intro _; try simp )
        | fail)
      done
end Go.Proofs.Ytnpkaemlidifgaa
end

section
/- Contracts: the statements StemmaFewest, StemmaReadings, StemmaChecks, StemmaAparts, StemmaPlaces, StemmaSides, StemmaConflicts, StemmaTotals. -/
namespace Go.Proofs.Ytnpkaemlidifgaa
open Go.Abs Go
set_option maxRecDepth 20000
set_option maxHeartbeats 2000000
attribute [local irreducible] PreK CondK CallK CallG CallX LoopK
attribute [local simp] avsEq avEq akind teq vkind vEq

@[simp] def claimV (c : (List Int × List Int) × Int × List Int) : AV := .agg [ints c.1.1, ints c.1.2, iv c.2.1, ints c.2.2]
end Go.Proofs.Ytnpkaemlidifgaa
end

section
/- Contracts: the statements StemmaSides and StemmaTotals. -/
namespace Go.Proofs.Ytnpkaemlidifgaa
open Go.Abs Go
set_option maxRecDepth 20000
set_option maxHeartbeats 2000000
attribute [local irreducible] PreK CondK CallK CallG CallX LoopK
attribute [local simp] avsEq avEq akind teq vkind vEq

end Go.Proofs.Ytnpkaemlidifgaa
end
