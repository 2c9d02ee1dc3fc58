/- Part 10 of the proof: the value layer and the contracts of the functions that the statement reaches; proved without conditions beyond those each theorem states. -/
import Derived.Test.YtkhddecnllcaiaaV6
import Derived.Test.YtkhddecnllcaiaaV8
import Derived.Test.YtkhddecnllcaiaaV9
set_option linter.unusedSimpArgs false
set_option linter.unusedVariables false

section
/- PURSE -/
/- The statement TopFeeds. -/
namespace Go.Proofs.Ytkhddecnllcaiaa
open Go.Abs Go
set_option maxRecDepth 20000
set_option maxHeartbeats 8000000
attribute [local irreducible] PreK CondK CallK CallG CallX LoopK
attribute [local simp] avsEq avEq akind teq vkind vEq

/-- The number that is picked. -/
theorem pick_in (p : Int) (n : Nat) (h0 : 0 < n) (hn : n ≤ 300) : ∃ k : Nat, k < n ∧ IntKind.i64.wrap ((IntKind.u64.wrap p).tmod (IntKind.u64.wrap (n : Int))) = (k : Int) := by
  have e1 : IntKind.u64.wrap (n : Int) = (n : Int) := wrap_in (k := .u64) (by simp only [inR]; omega)
  have h1 : 0 ≤ IntKind.u64.wrap p := by
    simp [IntKind.wrap, IntKind.bits, IntKind.signed]
    omega
  rw [e1]
  have h2 : 0 ≤ (IntKind.u64.wrap p).tmod (n : Int) := Int.tmod_nonneg _ h1
  have h3 : (IntKind.u64.wrap p).tmod (n : Int) < (n : Int) := Int.tmod_lt_of_pos _ (by omega)
  generalize (IntKind.u64.wrap p).tmod (n : Int) = q at h2 h3
  refine ⟨q.toNat, by omega, ?_⟩
  rw [wrap_in (k := .i64) (by simp only [inR]; omega)]
  omega
theorem pick_in2 (p : Int) (n : Nat) (h0 : 0 < n) (hn : n ≤ 300) : IntKind.u64.wrap (n : Int) = (n : Int) ∧ ∃ k : Nat, k < n ∧ IntKind.i64.wrap ((IntKind.u64.wrap p).tmod (n : Int)) = (k : Int) := by
  have e1 : IntKind.u64.wrap (n : Int) = (n : Int) := wrap_in (k := .u64) (by simp only [inR]; omega)
  refine ⟨e1, ?_⟩
  have := pick_in p n h0 hn
  rwa [e1] at this
theorem topFeeds_err (s : List Rule) (w : List Int) (pick : Int) (hb : s.length ≤ big) (hlg : longS s = true ∨ 100 < w.length ∨ (Sys.small s ∧ ¬ (ReachE s w).2 = 0)) : CallP Try.prog 4 [rulesV s, ints w, iv pick] (bv true) := by
  refine C4 (by simp) ?_
  have s1 : Sys.small [⟨0, [1, 1], [], []⟩, ⟨1, [], [], []⟩] := ⟨by simp, by intro r hr; simp at hr; rcases hr with rfl | rfl <;> exact ⟨by simp, by simp, by simp⟩⟩
  have hk0 := Longest_c [⟨0, [1, 1], [], []⟩, ⟨1, [], [], []⟩] [0] s1 (by simp)
  have ek : LongestE [⟨0, [1, 1], [], []⟩, ⟨1, [], [], []⟩] [0] = (3, true, 0) := by decide +kernel
  rw [ek] at hk0
  have hlo := long3_c s hb
  simp [A4]
  simp at hk0
  refine CallX.pure (CallP.weak (by simpa [weakL, weak] using hk0)) (by simp) (by simp) ?_
  try simp 
  repeat (refine PreK.intro (by first | omega | (intros; first | omega | (refine ⟨by omega, ?_⟩; simp_all; done) | (simp_all; done) | (simp_all; omega))) fun _ => ?_; (try simp ))
  refine CondK.ff ?_
  try simp 
  try simp 
  repeat' (first
    | (refine CallX.pure (hlo) (by simp) (by simp) ?_; try simp )
    | (refine CallK.intro (hlo) (by simp) (by simp) ?_; try simp )
    | (refine CallG.intro (fun _ => hlo) (by simp) (by simp) ?_; try simp )
    | ((with_reducible refine PreK.intro ?_ ?_); (next => (first | omega | (intros; first | omega | (refine ⟨by omega, ?_⟩; repeat (first | assumption | constructor)) | assumption))); intro _; try simp )
    | fail)
  cases hl : longS s
  · by_cases h100 : 100 < w.length
    · have h100' : (100 : Int) < w.length := by omega
      try simp [h100, h100']
      repeat (refine PreK.intro (by first | omega | (intros; first | omega | (refine ⟨by omega, ?_⟩; simp_all; done) | (simp_all; done) | (simp_all; omega))) fun _ => ?_; (try simp [h100, h100']))
      refine CondK.tt ?_
      try simp 
      try simp 
      repeat' (first
        | ((with_reducible refine PreK.intro ?_ ?_); (next => (first | omega | (intros; first | omega | (refine ⟨by omega, ?_⟩; repeat (first | assumption | constructor)) | assumption))); intro _; try simp )
        | fail)
    · have h100' : ¬ (100 : Int) < w.length := by omega
      obtain ⟨hs, hE⟩ : Sys.small s ∧ ¬ (ReachE s w).2 = 0 := by
        rcases hlg with h | h | h
        · rw [hl] at h; cases h
        · exact absurd h h100
        · exact h
      have hR := Reach_c s w hs (by omega)
      generalize ReachE s w = R at hR hE
      obtain ⟨L, e⟩ := R
      dsimp only at hR hE
      try simp [h100, h100']
      repeat (refine PreK.intro (by first | omega | (intros; first | omega | (refine ⟨by omega, ?_⟩; simp_all; done) | (simp_all; done) | (simp_all; omega))) fun _ => ?_; (try simp [h100, h100']))
      refine CondK.ff ?_
      try simp 
      try simp 
      repeat' (first
        | (refine CallX.pure (hR) (by simp) (by simp) ?_; try simp )
        | (refine CallK.intro (hR) (by simp) (by simp) ?_; try simp )
        | (refine CallG.intro (fun _ => hR) (by simp) (by simp) ?_; try simp )
        | ((with_reducible refine PreK.intro ?_ ?_); (next => (first | omega | (intros; first | omega | (refine ⟨by omega, ?_⟩; repeat (first | assumption | constructor)) | assumption))); intro _; try simp )
        | fail)
      try simp [hE]
      repeat (refine PreK.intro (by first | omega | (intros; first | omega | (refine ⟨by omega, ?_⟩; simp_all; done) | (simp_all; done) | (simp_all; omega))) fun _ => ?_; (try simp [hE]))
      refine CondK.tt ?_
      try simp 
      try simp [hE]
      repeat' (first
        | ((with_reducible refine PreK.intro ?_ ?_); (next => (first | omega | (intros; first | omega | (refine ⟨by omega, ?_⟩; repeat (first | assumption | constructor)) | assumption))); intro _; try simp [hE])
        | fail)
  · try simp 
    repeat (refine PreK.intro (by first | omega | (intros; first | omega | (refine ⟨by omega, ?_⟩; simp_all; done) | (simp_all; done) | (simp_all; omega))) fun _ => ?_; (try simp ))
    refine CondK.tt ?_
    try simp 
    try simp 
    repeat' (first
      | ((with_reducible refine PreK.intro ?_ ?_); (next => (first | omega | (intros; first | omega | (refine ⟨by omega, ?_⟩; repeat (first | assumption | constructor)) | assumption))); intro _; try simp )
      | fail)
theorem topFeeds_ok (s : List Rule) (w : List Int) (pick : Int) (hb : s.length ≤ big) (hl : longS s = false) (h100 : ¬ 100 < w.length) (hs : Sys.small s) (hE : (ReachE s w).2 = 0) : CallP Try.prog 4 [rulesV s, ints w, iv pick] (bv true) := by
  refine C4 (by simp) ?_
  have s1 : Sys.small [⟨0, [1, 1], [], []⟩, ⟨1, [], [], []⟩] := ⟨by simp, by intro r hr; simp at hr; rcases hr with rfl | rfl <;> exact ⟨by simp, by simp, by simp⟩⟩
  have hk0 := Longest_c [⟨0, [1, 1], [], []⟩, ⟨1, [], [], []⟩] [0] s1 (by simp)
  have ek : LongestE [⟨0, [1, 1], [], []⟩, ⟨1, [], [], []⟩] [0] = (3, true, 0) := by decide +kernel
  rw [ek] at hk0
  have hlo := long3_c s hb
  rw [hl] at hlo
  have hw : w.length ≤ 1000 := by omega
  have h100' : ¬ (100 : Int) < w.length := by omega
  obtain ⟨l0, l300, e1, e2, e3, e4, e5, fe, hends, hshort, hone, hcalm, we, wh, un⟩ := topF_of hE
  have hnx := fun v hv => (topV_of (v := v) hE hv).nx
  have hTV := fun v hv => topV_of (v := v) hE hv
  have hTU := topU hE
  have hR := Reach_c s w hs hw
  have hRs := (ReachE_small (s := s) (w := w)).2
  have hEs := (EndsE_small (s := s) (w := w)).2
  have hL := Longest_c s w hs hw
  have hF := Forever_c s w hs hw
  have hEn := Ends_c s w hs hw
  have hC := IsCalm_c s w hs hw
  have hO := One_c s w hs hw
  have hWt := Weights_c s hs
  have hU := Unused_c s w hs hw
  have hUl := UnusedR_len (s := s) (w := w)
  have hWl : (WeightsR s).2.1 = true → (WeightsR s).1.length ≤ big := fun h => by have := (holds_least (wh h).2.2.2).2.2.1; simp only [big]; omega
  have hWe := fun h => Weigh_c (WeightsR s).1 w (hWl h) hw
  have hWc := fun h => CheckWeights_c s (WeightsR s).1 hs (hWl h)
  have hTr := fun k => Reach_c (WithoutR s k).1 w (without_small hs) hw
  have hTw := fun k => Without_c s k hs
  have hsl := hs.1
  have hTp := fun v (hv : v ∈ (ReachE s w).1) => (topV_of (v := v) hE hv).le
  generalize ReachE s w = R at hE l0 l300 hshort hR hRs hnx hTV hTU hTp
  generalize LongestE s w = Lg at e1 fe hshort hone wh hL hTp
  generalize ForeverE s w = Fv at e2 fe hends hcalm hF
  generalize EndsE s w = En at e3 hends hone hEn hEs
  generalize CalmE s w = Cm at e4 hcalm hC
  generalize OneE s w = On at e5 hone hcalm hO
  generalize WeightsR s = Wt at we wh hWl hWe hWc hWt
  generalize UnusedR s w = Us at un hU hUl hTU
  obtain ⟨L, z0⟩ := R
  obtain ⟨n, is, z1⟩ := Lg
  obtain ⟨ever, z2⟩ := Fv
  obtain ⟨E, z3⟩ := En
  obtain ⟨calm, z4⟩ := Cm
  obtain ⟨one, only, z5⟩ := On
  obtain ⟨wl, holds, z6⟩ := Wt
  obtain ⟨ul, z7⟩ := Us
  dsimp only at *
  subst hE e1 e2 e3 e4 e5 fe we un
  obtain ⟨hone1, hone2⟩ := hone
  simp [A4]
  simp at hk0
  refine CallX.pure (CallP.weak (by simpa [weakL, weak] using hk0)) (by simp) (by simp) ?_
  try simp 
  repeat (refine PreK.intro (by first | omega | (intros; first | omega | (refine ⟨by omega, ?_⟩; simp_all; done) | (simp_all; done) | (simp_all; omega))) fun _ => ?_; (try simp ))
  refine CondK.ff ?_
  try simp 
  try simp 
  repeat' (first
    | (refine CallX.pure (hlo) (by simp) (by simp) ?_; try simp )
    | (refine CallK.intro (hlo) (by simp) (by simp) ?_; try simp )
    | (refine CallG.intro (fun _ => hlo) (by simp) (by simp) ?_; try simp )
    | ((with_reducible refine PreK.intro ?_ ?_); (next => (first | omega | (intros; first | omega | (refine ⟨by omega, ?_⟩; repeat (first | assumption | constructor)) | assumption))); intro _; try simp )
    | fail)
  try simp [h100, h100']
  repeat (refine PreK.intro (by first | omega | (intros; first | omega | (refine ⟨by omega, ?_⟩; simp_all; done) | (simp_all; done) | (simp_all; omega))) fun _ => ?_; (try simp [h100, h100']))
  refine CondK.ff ?_
  try simp 
  try simp 
  repeat' (first
    | (refine CallX.pure (hR) (by simp) (by simp) ?_; try simp )
    | (refine CallK.intro (hR) (by simp) (by simp) ?_; try simp )
    | (refine CallG.intro (fun _ => hR) (by simp) (by simp) ?_; try simp )
    | ((with_reducible refine PreK.intro ?_ ?_); (next => (first | omega | (intros; first | omega | (refine ⟨by omega, ?_⟩; repeat (first | assumption | constructor)) | assumption))); intro _; try simp )
    | fail)
  refine CondK.intro (fun hx1 => ?_) (fun hx1 => ?_)
  · exfalso
    simp at hx1
    rcases hx1 with h | h
    · subst h; simp at l0
    · omega
  · clear hx1
    try simp 
    repeat' (first
      | (refine CallX.pure (hL) (by simp) (by simp) ?_; try simp )
      | (refine CallK.intro (hL) (by simp) (by simp) ?_; try simp )
      | (refine CallG.intro (fun _ => hL) (by simp) (by simp) ?_; try simp )
      | (refine CallX.pure (hF) (by simp) (by simp) ?_; try simp )
      | (refine CallK.intro (hF) (by simp) (by simp) ?_; try simp )
      | (refine CallG.intro (fun _ => hF) (by simp) (by simp) ?_; try simp )
      | (refine CallX.pure (hEn) (by simp) (by simp) ?_; try simp )
      | (refine CallK.intro (hEn) (by simp) (by simp) ?_; try simp )
      | (refine CallG.intro (fun _ => hEn) (by simp) (by simp) ?_; try simp )
      | (refine CallX.pure (hC) (by simp) (by simp) ?_; try simp )
      | (refine CallK.intro (hC) (by simp) (by simp) ?_; try simp )
      | (refine CallG.intro (fun _ => hC) (by simp) (by simp) ?_; try simp )
      | (refine CallX.pure (hO) (by simp) (by simp) ?_; try simp )
      | (refine CallK.intro (hO) (by simp) (by simp) ?_; try simp )
      | (refine CallG.intro (fun _ => hO) (by simp) (by simp) ?_; try simp )
      | ((with_reducible refine PreK.intro ?_ ?_); (next => (first | omega | (intros; first | omega | (refine ⟨by omega, ?_⟩; repeat (first | assumption | constructor)) | assumption))); intro _; try simp )
      | fail)
    cases is
    · have e6 : oneR false E = ([], false) := rfl
      rw [e6] at hone1 hone2
      dsimp only at hone1 hone2
      subst hone1 hone2
      try simp 
      repeat (refine PreK.intro (by first | omega | (intros; first | omega | (refine ⟨by omega, ?_⟩; simp_all; done) | (simp_all; done) | (simp_all; omega))) fun _ => ?_; (try simp ))
      refine CondK.ff ?_
      try simp 
      try simp 
      repeat (refine PreK.intro (by first | omega | (intros; first | omega | (refine ⟨by omega, ?_⟩; simp_all; done) | (simp_all; done) | (simp_all; omega))) fun _ => ?_; (try simp ))
      refine CallG.intro (r := bv true) (fun hh => by cases hh) (by simp) (by simp) ?_
      try simp 
      repeat (refine PreK.intro (by first | omega | (intros; first | omega | (refine ⟨by omega, ?_⟩; simp_all; done) | (simp_all; done) | (simp_all; omega))) fun _ => ?_; (try simp ))
      refine CondK.ff ?_
      try simp 
      try simp 
      repeat (refine PreK.intro (by first | omega | (intros; first | omega | (refine ⟨by omega, ?_⟩; simp_all; done) | (simp_all; done) | (simp_all; omega))) fun _ => ?_; (try simp ))
      try simp 
      repeat' (first
        | (refine CallX.pure (hWt) (by simp) (by simp) ?_; try simp )
        | (refine CallK.intro (hWt) (by simp) (by simp) ?_; try simp )
        | (refine CallG.intro (fun _ => hWt) (by simp) (by simp) ?_; try simp )
        | ((with_reducible refine PreK.intro ?_ ?_); (next => (first | omega | (intros; first | omega | (refine ⟨by omega, ?_⟩; repeat (first | assumption | constructor)) | assumption))); intro _; try simp )
        | fail)
      refine CondK.ff ?_
      try simp 
      try simp 
      repeat (refine PreK.intro (by first | omega | (intros; first | omega | (refine ⟨by omega, ?_⟩; simp_all; done) | (simp_all; done) | (simp_all; omega))) fun _ => ?_; (try simp ))
      cases holds
      · refine CondK.ff ?_
        try simp 
        try simp 
        repeat (refine PreK.intro (by first | omega | (intros; first | omega | (refine ⟨by omega, ?_⟩; simp_all; done) | (simp_all; done) | (simp_all; omega))) fun _ => ?_; (try simp ))
        obtain ⟨hwl, q, hq, hqe⟩ := pick_in2 pick L.length l0 l300
        have hv := el_mem_of L q hq
        obtain ⟨n0, i0, p0, ie, _, plen, ck, jn, _, v8, xl⟩ := hTV _ hv
        have hNx := hnx _ hv
        have hPl := hTp _ hv
        have hN := Next_c s (el L q) hs (by omega)
        have hI := IsEnd_c s (el L q) hs (by omega)
        have hP := Path_c s w (el L q) hs hw (by omega)
        have hCk := CheckPath_c s w (PathR s w (el L q)).1 hs hw (by omega)
        have hJ := Join_c s w (el L q) hs hw (by omega)
        rw [jn] at hJ
        have hL0 : ¬ L = [] := fun e => by rw [e] at l0; simp at l0
        try simp [hwl, hqe, hq, hL0]
        repeat (refine PreK.intro (by first | omega | (intros; first | omega | (refine ⟨by omega, ?_⟩; simp_all; done) | (simp_all; done) | (simp_all; omega))) fun _ => ?_; (try simp [hwl, hqe, hq, hL0]))
        generalize NextE s (el L q) = Nx at n0 ie hNx hN xl
        generalize IsEndR s (el L q) = Ie at i0 ie hI
        generalize PathR s w (el L q) = Pa at p0 plen ck hPl hP hCk
        obtain ⟨X, y0⟩ := Nx
        obtain ⟨en, y1⟩ := Ie
        obtain ⟨pa, found, y2⟩ := Pa
        dsimp only at *
        subst n0 i0 p0 ie
        generalize hvq : el L q = v at *
        try simp 
        repeat' (first
          | (refine CallX.pure (hN) (by simp) (by simp) ?_; try simp )
          | (refine CallK.intro (hN) (by simp) (by simp) ?_; try simp )
          | (refine CallG.intro (fun _ => hN) (by simp) (by simp) ?_; try simp )
          | (refine CallX.pure (hI) (by simp) (by simp) ?_; try simp )
          | (refine CallK.intro (hI) (by simp) (by simp) ?_; try simp )
          | (refine CallG.intro (fun _ => hI) (by simp) (by simp) ?_; try simp )
          | (refine CallX.pure (hP) (by simp) (by simp) ?_; try simp )
          | (refine CallK.intro (hP) (by simp) (by simp) ?_; try simp )
          | (refine CallG.intro (fun _ => hP) (by simp) (by simp) ?_; try simp )
          | ((with_reducible refine PreK.intro ?_ ?_); (next => (first | omega | (intros; first | omega | (refine ⟨by omega, ?_⟩; repeat (first | assumption | constructor)) | assumption))); intro _; try simp )
          | fail)
        refine CondK.ff ?_
        try simp 
        try simp 
        repeat (refine PreK.intro (by first | omega | (intros; first | omega | (refine ⟨by omega, ?_⟩; simp_all; done) | (simp_all; done) | (simp_all; omega))) fun _ => ?_; (try simp ))
        refine LoopK.by (ι := Nat) (fun k => ⟨[(32, iv k), (31, bv found), (30, stepsV pa), (28, wordsV X), (27, ints v), (13, bv false), (12, iv n), (10, wordsV L), (0, rulesV s), (1, ints w)], []⟩) (fun k => X.length - k) (fun k => k ≤ X.length) 0 (Nat.zero_le _) (by simp) ?_
        intro k Q1 hk hq1 he1 hr1
        try simp 
        refine CondK.intro (fun hk1 => ?_) (fun hk1 => ?_)
        · simp at hk1
          have hxm := hNx _ (el_mem_of X k hk1)
          try simp [hk1]
          repeat (refine PreK.intro (by first | omega | (intros; first | omega | (refine ⟨by omega, ?_⟩; simp_all; done) | (simp_all; done) | (simp_all; omega))) fun _ => ?_; (try simp [hk1]))
          refine LoopK.by (ι := Nat × Bool) (fun x => ⟨[(34, iv x.1), (33, bv x.2), (32, iv k), (31, bv found), (30, stepsV pa), (28, wordsV X), (27, ints v), (13, bv false), (12, iv n), (10, wordsV L), (0, rulesV s), (1, ints w)], []⟩) (fun x => L.length - x.1)
            (fun x => x.1 ≤ L.length ∧ x.2 = (L.take x.1).any fun y => decide (y = el X k)) (0, false) ⟨Nat.zero_le _, rfl⟩ (by simp) ?_
          intro ⟨m, b⟩ Q2 ⟨hm, hb2⟩ hq2 he2 hr2
          dsimp only at hm hb2
          try simp 
          refine CondK.intro (fun hm1 => ?_) (fun hm1 => ?_)
          · simp at hm1
            have htk : (L.take (m + 1)).any (fun y => decide (y = el X k)) = (b || decide (el L m = el X k)) := by rw [take_succ L m hm1, hb2]; simp
            cases b
            · have hsm := same1_c (el L m) (el X k) (by have := hRs _ (el_mem_of L m hm1); simp only [big]; omega)
              try simp [hm1, hk1]
              repeat (refine PreK.intro (by first | omega | (intros; first | omega | (refine ⟨by omega, ?_⟩; simp_all; done) | (simp_all; done) | (simp_all; omega))) fun _ => ?_; (try simp [hm1, hk1]))
              refine CallG.intro (fun _ => by simpa using hsm) (by simp) (by simp) ?_
              try simp 
              repeat (refine PreK.intro (by first | omega | (intros; first | omega | (refine ⟨by omega, ?_⟩; simp_all; done) | (simp_all; done) | (simp_all; omega))) fun _ => ?_; (try simp ))
              refine hq2 (m + 1, decide (el L m = el X k)) _ ⟨by dsimp only; omega, by rw [htk]; simp⟩ (by dsimp only; omega) (by simp)
            · try simp [hm1, hk1]
              repeat (refine PreK.intro (by first | omega | (intros; first | omega | (refine ⟨by omega, ?_⟩; simp_all; done) | (simp_all; done) | (simp_all; omega))) fun _ => ?_; (try simp [hm1, hk1]))
              refine CallG.intro (r := bv true) (fun hh => by cases hh) (by simp) (by simp) ?_
              try simp 
              repeat (refine PreK.intro (by first | omega | (intros; first | omega | (refine ⟨by omega, ?_⟩; simp_all; done) | (simp_all; done) | (simp_all; omega))) fun _ => ?_; (try simp ))
              refine hq2 (m + 1, true) _ ⟨by dsimp only; omega, by rw [htk]; simp⟩ (by dsimp only; omega) (by simp)
          · simp at hm1
            have hbt : b = true := by
              rw [hb2, List.take_of_length_le (by omega), List.any_eq_true]
              exact ⟨_, hxm, by simp⟩
            subst hbt
            try simp 
            apply he2
            try simp 
            repeat (refine PreK.intro (by first | omega | (intros; first | omega | (refine ⟨by omega, ?_⟩; simp_all; done) | (simp_all; done) | (simp_all; omega))) fun _ => ?_; (try simp ))
            refine CondK.ff ?_
            try simp 
            try simp 
            repeat (refine PreK.intro (by first | omega | (intros; first | omega | (refine ⟨by omega, ?_⟩; simp_all; done) | (simp_all; done) | (simp_all; omega))) fun _ => ?_; (try simp ))
            exact hq1 (k + 1) _ (by omega) (by omega) (by simp)
        · simp at hk1
          try simp 
          apply he1
          try simp 
          repeat (refine PreK.intro (by first | omega | (intros; first | omega | (refine ⟨by omega, ?_⟩; simp_all; done) | (simp_all; done) | (simp_all; omega))) fun _ => ?_; (try simp ))
          cases found
          · refine CondK.ff ?_
            try simp 
            try simp 
            repeat (refine PreK.intro (by first | omega | (intros; first | omega | (refine ⟨by omega, ?_⟩; simp_all; done) | (simp_all; done) | (simp_all; omega))) fun _ => ?_; (try simp ))
            try simp 
            repeat' (first
              | (refine CallX.pure (hU) (by simp) (by simp) ?_; try simp )
              | (refine CallK.intro (hU) (by simp) (by simp) ?_; try simp )
              | (refine CallG.intro (fun _ => hU) (by simp) (by simp) ?_; try simp )
              | ((with_reducible refine PreK.intro ?_ ?_); (next => (first | omega | (intros; first | omega | (refine ⟨by omega, ?_⟩; repeat (first | assumption | constructor)) | assumption))); intro _; try simp )
              | fail)
            refine CondK.intro (fun hu1 => ?_) (fun hu1 => ?_)
            · exfalso
              simp at hu1
              omega
            · clear hu1
              by_cases hu0 : ul.length = 0
              · have hun : ul = [] := List.eq_nil_of_length_eq_zero hu0
                subst hun
                try simp 
                repeat (refine PreK.intro (by first | omega | (intros; first | omega | (refine ⟨by omega, ?_⟩; simp_all; done) | (simp_all; done) | (simp_all; omega))) fun _ => ?_; (try simp ))
                refine CondK.tt ?_
                try simp 
                try simp 
                repeat' (first
                  | ((with_reducible refine PreK.intro ?_ ?_); (next => (first | omega | (intros; first | omega | (refine ⟨by omega, ?_⟩; repeat (first | assumption | constructor)) | assumption))); intro _; try simp )
                  | fail)
              · have hu2 : ¬ ul = [] := fun e => hu0 (by rw [e]; rfl)
                have hup : 0 < ul.length := by omega
                have hul1 : ul.length - 1 < ul.length := by omega
                have hun1 : ((ul.length : Int) - 1).toNat = ul.length - 1 := by omega
                have hun2 : (0 : Int) ≤ (ul.length : Int) - 1 := by omega
                have hun3 : (ul.length : Int) - 1 < ul.length := by omega
                obtain ⟨t1, t2⟩ := hTU hup
                have hW := hTw (el ul (ul.length - 1))
                have hRr := hTr (el ul (ul.length - 1))
                rw [t2] at hRr
                generalize WithoutR s (el ul (ul.length - 1)) = Wo at t1 hW hRr
                obtain ⟨wo, x0⟩ := Wo
                dsimp only at t1 hW hRr
                subst t1
                have hsl2 := sameLists_c L L (by simp only [big]; omega) (fun x hx => by have := hRs x hx; simp only [big]; omega)
                try simp [hu2]
                repeat (refine PreK.intro (by first | omega | (intros; first | omega | (refine ⟨by omega, ?_⟩; simp_all; done) | (simp_all; done) | (simp_all; omega))) fun _ => ?_; (try simp [hu2]))
                refine CondK.ff ?_
                try simp 
                try simp [hup, hul1, hun1, hun2, hun3]
                repeat (refine PreK.intro (by first | omega | (intros; first | omega | (refine ⟨by omega, ?_⟩; simp_all; done) | (simp_all; done) | (simp_all; omega))) fun _ => ?_; (try simp [hup, hul1, hun1, hun2, hun3]))
                try simp [hup, hul1, hun1, hun2, hun3]
                repeat' (first
                  | (refine CallX.pure (hW) (by simp) (by simp) ?_; try simp [hup, hul1, hun1, hun2, hun3])
                  | (refine CallK.intro (hW) (by simp) (by simp) ?_; try simp [hup, hul1, hun1, hun2, hun3])
                  | (refine CallG.intro (fun _ => hW) (by simp) (by simp) ?_; try simp [hup, hul1, hun1, hun2, hun3])
                  | (refine CallX.pure (hRr) (by simp) (by simp) ?_; try simp [hup, hul1, hun1, hun2, hun3])
                  | (refine CallK.intro (hRr) (by simp) (by simp) ?_; try simp [hup, hul1, hun1, hun2, hun3])
                  | (refine CallG.intro (fun _ => hRr) (by simp) (by simp) ?_; try simp [hup, hul1, hun1, hun2, hun3])
                  | (refine CallX.pure (hsl2) (by simp) (by simp) ?_; try simp [hup, hul1, hun1, hun2, hun3])
                  | (refine CallK.intro (hsl2) (by simp) (by simp) ?_; try simp [hup, hul1, hun1, hun2, hun3])
                  | (refine CallG.intro (fun _ => hsl2) (by simp) (by simp) ?_; try simp [hup, hul1, hun1, hun2, hun3])
                  | ((with_reducible refine PreK.intro ?_ ?_); (next => (first | omega | (intros; first | omega | (refine ⟨by omega, ?_⟩; repeat (first | assumption | constructor)) | assumption))); intro _; try simp [hup, hul1, hun1, hun2, hun3])
                  | fail)
          · have hck := ck rfl
            rw [hck] at hCk
            have hsv := same1_c v v (by simp only [big]; omega)
            have hple := hPl rfl
            refine CondK.tt ?_
            try simp 
            try simp 
            repeat' (first
              | (refine CallX.pure (hCk) (by simp) (by simp) ?_; try simp )
              | (refine CallK.intro (hCk) (by simp) (by simp) ?_; try simp )
              | (refine CallG.intro (fun _ => hCk) (by simp) (by simp) ?_; try simp )
              | (refine CallX.pure (hJ) (by simp) (by simp) ?_; try simp )
              | (refine CallK.intro (hJ) (by simp) (by simp) ?_; try simp )
              | (refine CallG.intro (fun _ => hJ) (by simp) (by simp) ?_; try simp )
              | (refine CallX.pure (hsv) (by simp) (by simp) ?_; try simp )
              | (refine CallK.intro (hsv) (by simp) (by simp) ?_; try simp )
              | (refine CallG.intro (fun _ => hsv) (by simp) (by simp) ?_; try simp )
              | ((with_reducible refine PreK.intro ?_ ?_); (next => (first | omega | (intros; first | omega | (refine ⟨by omega, ?_⟩; repeat (first | assumption | constructor)) | assumption))); intro _; try simp )
              | fail)
            refine CondK.ff ?_
            try simp 
            try simp 
            repeat (refine PreK.intro (by first | omega | (intros; first | omega | (refine ⟨by omega, ?_⟩; simp_all; done) | (simp_all; done) | (simp_all; omega))) fun _ => ?_; (try simp ))
            try simp 
            repeat' (first
              | (refine CallX.pure (hU) (by simp) (by simp) ?_; try simp )
              | (refine CallK.intro (hU) (by simp) (by simp) ?_; try simp )
              | (refine CallG.intro (fun _ => hU) (by simp) (by simp) ?_; try simp )
              | ((with_reducible refine PreK.intro ?_ ?_); (next => (first | omega | (intros; first | omega | (refine ⟨by omega, ?_⟩; repeat (first | assumption | constructor)) | assumption))); intro _; try simp )
              | fail)
            refine CondK.intro (fun hu1 => ?_) (fun hu1 => ?_)
            · exfalso
              simp at hu1
              omega
            · clear hu1
              by_cases hu0 : ul.length = 0
              · have hun : ul = [] := List.eq_nil_of_length_eq_zero hu0
                subst hun
                try simp 
                repeat (refine PreK.intro (by first | omega | (intros; first | omega | (refine ⟨by omega, ?_⟩; simp_all; done) | (simp_all; done) | (simp_all; omega))) fun _ => ?_; (try simp ))
                refine CondK.tt ?_
                try simp 
                try simp 
                repeat' (first
                  | ((with_reducible refine PreK.intro ?_ ?_); (next => (first | omega | (intros; first | omega | (refine ⟨by omega, ?_⟩; repeat (first | assumption | constructor)) | assumption))); intro _; try simp )
                  | fail)
              · have hu2 : ¬ ul = [] := fun e => hu0 (by rw [e]; rfl)
                have hup : 0 < ul.length := by omega
                have hul1 : ul.length - 1 < ul.length := by omega
                have hun1 : ((ul.length : Int) - 1).toNat = ul.length - 1 := by omega
                have hun2 : (0 : Int) ≤ (ul.length : Int) - 1 := by omega
                have hun3 : (ul.length : Int) - 1 < ul.length := by omega
                obtain ⟨t1, t2⟩ := hTU hup
                have hW := hTw (el ul (ul.length - 1))
                have hRr := hTr (el ul (ul.length - 1))
                rw [t2] at hRr
                generalize WithoutR s (el ul (ul.length - 1)) = Wo at t1 hW hRr
                obtain ⟨wo, x0⟩ := Wo
                dsimp only at t1 hW hRr
                subst t1
                have hsl2 := sameLists_c L L (by simp only [big]; omega) (fun x hx => by have := hRs x hx; simp only [big]; omega)
                try simp [hu2]
                repeat (refine PreK.intro (by first | omega | (intros; first | omega | (refine ⟨by omega, ?_⟩; simp_all; done) | (simp_all; done) | (simp_all; omega))) fun _ => ?_; (try simp [hu2]))
                refine CondK.ff ?_
                try simp 
                try simp [hup, hul1, hun1, hun2, hun3]
                repeat (refine PreK.intro (by first | omega | (intros; first | omega | (refine ⟨by omega, ?_⟩; simp_all; done) | (simp_all; done) | (simp_all; omega))) fun _ => ?_; (try simp [hup, hul1, hun1, hun2, hun3]))
                try simp [hup, hul1, hun1, hun2, hun3]
                repeat' (first
                  | (refine CallX.pure (hW) (by simp) (by simp) ?_; try simp [hup, hul1, hun1, hun2, hun3])
                  | (refine CallK.intro (hW) (by simp) (by simp) ?_; try simp [hup, hul1, hun1, hun2, hun3])
                  | (refine CallG.intro (fun _ => hW) (by simp) (by simp) ?_; try simp [hup, hul1, hun1, hun2, hun3])
                  | (refine CallX.pure (hRr) (by simp) (by simp) ?_; try simp [hup, hul1, hun1, hun2, hun3])
                  | (refine CallK.intro (hRr) (by simp) (by simp) ?_; try simp [hup, hul1, hun1, hun2, hun3])
                  | (refine CallG.intro (fun _ => hRr) (by simp) (by simp) ?_; try simp [hup, hul1, hun1, hun2, hun3])
                  | (refine CallX.pure (hsl2) (by simp) (by simp) ?_; try simp [hup, hul1, hun1, hun2, hun3])
                  | (refine CallK.intro (hsl2) (by simp) (by simp) ?_; try simp [hup, hul1, hun1, hun2, hun3])
                  | (refine CallG.intro (fun _ => hsl2) (by simp) (by simp) ?_; try simp [hup, hul1, hun1, hun2, hun3])
                  | ((with_reducible refine PreK.intro ?_ ?_); (next => (first | omega | (intros; first | omega | (refine ⟨by omega, ?_⟩; repeat (first | assumption | constructor)) | assumption))); intro _; try simp [hup, hul1, hun1, hun2, hun3])
                  | fail)
      · exfalso
        have := (wh rfl).2.1
        cases this
    · by_cases hE1 : E.length = 1
      · have e6 : oneR true E = (el E 0, true) := by simp [oneR, hE1]
        rw [e6] at hone1 hone2
        dsimp only at hone1 hone2
        subst hone1 hone2
        have hE0 : 0 < E.length := by omega
        have hEn0 : ¬ E = [] := fun e => by rw [e] at hE0; simp at hE0
        have hEi : (E.length : Int) = 1 := by omega
        have hnl : ¬ (L.length : Int) ≤ n := by have := hshort rfl; omega
        have hse := same1_c (el E 0) (el E 0) (by have := hEs _ (el_mem_of E 0 hE0); simp only [big]; omega)
        try simp [hEn0, hnl]
        repeat (refine PreK.intro (by first | omega | (intros; first | omega | (refine ⟨by omega, ?_⟩; simp_all; done) | (simp_all; done) | (simp_all; omega))) fun _ => ?_; (try simp [hEn0, hnl]))
        refine CondK.ff ?_
        try simp 
        try simp [hE1, hEi, hE0]
        repeat (refine PreK.intro (by first | omega | (intros; first | omega | (refine ⟨by omega, ?_⟩; simp_all; done) | (simp_all; done) | (simp_all; omega))) fun _ => ?_; (try simp [hE1, hEi, hE0]))
        refine CallG.intro (fun _ => by simpa using hse) (by simp) (by simp) ?_
        try simp 
        repeat (refine PreK.intro (by first | omega | (intros; first | omega | (refine ⟨by omega, ?_⟩; simp_all; done) | (simp_all; done) | (simp_all; omega))) fun _ => ?_; (try simp ))
        refine CondK.ff ?_
        try simp 
        try simp 
        repeat (refine PreK.intro (by first | omega | (intros; first | omega | (refine ⟨by omega, ?_⟩; simp_all; done) | (simp_all; done) | (simp_all; omega))) fun _ => ?_; (try simp ))
        try simp 
        repeat' (first
          | (refine CallX.pure (hWt) (by simp) (by simp) ?_; try simp )
          | (refine CallK.intro (hWt) (by simp) (by simp) ?_; try simp )
          | (refine CallG.intro (fun _ => hWt) (by simp) (by simp) ?_; try simp )
          | ((with_reducible refine PreK.intro ?_ ?_); (next => (first | omega | (intros; first | omega | (refine ⟨by omega, ?_⟩; repeat (first | assumption | constructor)) | assumption))); intro _; try simp )
          | fail)
        refine CondK.ff ?_
        try simp 
        try simp 
        repeat (refine PreK.intro (by first | omega | (intros; first | omega | (refine ⟨by omega, ?_⟩; simp_all; done) | (simp_all; done) | (simp_all; omega))) fun _ => ?_; (try simp ))
        cases holds
        · refine CondK.ff ?_
          try simp 
          try simp 
          repeat (refine PreK.intro (by first | omega | (intros; first | omega | (refine ⟨by omega, ?_⟩; simp_all; done) | (simp_all; done) | (simp_all; omega))) fun _ => ?_; (try simp ))
          obtain ⟨hwl, q, hq, hqe⟩ := pick_in2 pick L.length l0 l300
          have hv := el_mem_of L q hq
          obtain ⟨n0, i0, p0, ie, _, plen, ck, jn, _, v8, xl⟩ := hTV _ hv
          have hNx := hnx _ hv
          have hPl := hTp _ hv
          have hN := Next_c s (el L q) hs (by omega)
          have hI := IsEnd_c s (el L q) hs (by omega)
          have hP := Path_c s w (el L q) hs hw (by omega)
          have hCk := CheckPath_c s w (PathR s w (el L q)).1 hs hw (by omega)
          have hJ := Join_c s w (el L q) hs hw (by omega)
          rw [jn] at hJ
          have hL0 : ¬ L = [] := fun e => by rw [e] at l0; simp at l0
          try simp [hwl, hqe, hq, hL0]
          repeat (refine PreK.intro (by first | omega | (intros; first | omega | (refine ⟨by omega, ?_⟩; simp_all; done) | (simp_all; done) | (simp_all; omega))) fun _ => ?_; (try simp [hwl, hqe, hq, hL0]))
          generalize NextE s (el L q) = Nx at n0 ie hNx hN xl
          generalize IsEndR s (el L q) = Ie at i0 ie hI
          generalize PathR s w (el L q) = Pa at p0 plen ck hPl hP hCk
          obtain ⟨X, y0⟩ := Nx
          obtain ⟨en, y1⟩ := Ie
          obtain ⟨pa, found, y2⟩ := Pa
          dsimp only at *
          subst n0 i0 p0 ie
          generalize hvq : el L q = v at *
          try simp 
          repeat' (first
            | (refine CallX.pure (hN) (by simp) (by simp) ?_; try simp )
            | (refine CallK.intro (hN) (by simp) (by simp) ?_; try simp )
            | (refine CallG.intro (fun _ => hN) (by simp) (by simp) ?_; try simp )
            | (refine CallX.pure (hI) (by simp) (by simp) ?_; try simp )
            | (refine CallK.intro (hI) (by simp) (by simp) ?_; try simp )
            | (refine CallG.intro (fun _ => hI) (by simp) (by simp) ?_; try simp )
            | (refine CallX.pure (hP) (by simp) (by simp) ?_; try simp )
            | (refine CallK.intro (hP) (by simp) (by simp) ?_; try simp )
            | (refine CallG.intro (fun _ => hP) (by simp) (by simp) ?_; try simp )
            | ((with_reducible refine PreK.intro ?_ ?_); (next => (first | omega | (intros; first | omega | (refine ⟨by omega, ?_⟩; repeat (first | assumption | constructor)) | assumption))); intro _; try simp )
            | fail)
          refine CondK.ff ?_
          try simp 
          try simp 
          repeat (refine PreK.intro (by first | omega | (intros; first | omega | (refine ⟨by omega, ?_⟩; simp_all; done) | (simp_all; done) | (simp_all; omega))) fun _ => ?_; (try simp ))
          refine LoopK.by (ι := Nat) (fun k => ⟨[(32, iv k), (31, bv found), (30, stepsV pa), (28, wordsV X), (27, ints v), (13, bv true), (12, iv n), (10, wordsV L), (0, rulesV s), (1, ints w)], []⟩) (fun k => X.length - k) (fun k => k ≤ X.length) 0 (Nat.zero_le _) (by simp) ?_
          intro k Q1 hk hq1 he1 hr1
          try simp 
          refine CondK.intro (fun hk1 => ?_) (fun hk1 => ?_)
          · simp at hk1
            have hxm := hNx _ (el_mem_of X k hk1)
            try simp [hk1]
            repeat (refine PreK.intro (by first | omega | (intros; first | omega | (refine ⟨by omega, ?_⟩; simp_all; done) | (simp_all; done) | (simp_all; omega))) fun _ => ?_; (try simp [hk1]))
            refine LoopK.by (ι := Nat × Bool) (fun x => ⟨[(34, iv x.1), (33, bv x.2), (32, iv k), (31, bv found), (30, stepsV pa), (28, wordsV X), (27, ints v), (13, bv true), (12, iv n), (10, wordsV L), (0, rulesV s), (1, ints w)], []⟩) (fun x => L.length - x.1)
              (fun x => x.1 ≤ L.length ∧ x.2 = (L.take x.1).any fun y => decide (y = el X k)) (0, false) ⟨Nat.zero_le _, rfl⟩ (by simp) ?_
            intro ⟨m, b⟩ Q2 ⟨hm, hb2⟩ hq2 he2 hr2
            dsimp only at hm hb2
            try simp 
            refine CondK.intro (fun hm1 => ?_) (fun hm1 => ?_)
            · simp at hm1
              have htk : (L.take (m + 1)).any (fun y => decide (y = el X k)) = (b || decide (el L m = el X k)) := by rw [take_succ L m hm1, hb2]; simp
              cases b
              · have hsm := same1_c (el L m) (el X k) (by have := hRs _ (el_mem_of L m hm1); simp only [big]; omega)
                try simp [hm1, hk1]
                repeat (refine PreK.intro (by first | omega | (intros; first | omega | (refine ⟨by omega, ?_⟩; simp_all; done) | (simp_all; done) | (simp_all; omega))) fun _ => ?_; (try simp [hm1, hk1]))
                refine CallG.intro (fun _ => by simpa using hsm) (by simp) (by simp) ?_
                try simp 
                repeat (refine PreK.intro (by first | omega | (intros; first | omega | (refine ⟨by omega, ?_⟩; simp_all; done) | (simp_all; done) | (simp_all; omega))) fun _ => ?_; (try simp ))
                refine hq2 (m + 1, decide (el L m = el X k)) _ ⟨by dsimp only; omega, by rw [htk]; simp⟩ (by dsimp only; omega) (by simp)
              · try simp [hm1, hk1]
                repeat (refine PreK.intro (by first | omega | (intros; first | omega | (refine ⟨by omega, ?_⟩; simp_all; done) | (simp_all; done) | (simp_all; omega))) fun _ => ?_; (try simp [hm1, hk1]))
                refine CallG.intro (r := bv true) (fun hh => by cases hh) (by simp) (by simp) ?_
                try simp 
                repeat (refine PreK.intro (by first | omega | (intros; first | omega | (refine ⟨by omega, ?_⟩; simp_all; done) | (simp_all; done) | (simp_all; omega))) fun _ => ?_; (try simp ))
                refine hq2 (m + 1, true) _ ⟨by dsimp only; omega, by rw [htk]; simp⟩ (by dsimp only; omega) (by simp)
            · simp at hm1
              have hbt : b = true := by
                rw [hb2, List.take_of_length_le (by omega), List.any_eq_true]
                exact ⟨_, hxm, by simp⟩
              subst hbt
              try simp 
              apply he2
              try simp 
              repeat (refine PreK.intro (by first | omega | (intros; first | omega | (refine ⟨by omega, ?_⟩; simp_all; done) | (simp_all; done) | (simp_all; omega))) fun _ => ?_; (try simp ))
              refine CondK.ff ?_
              try simp 
              try simp 
              repeat (refine PreK.intro (by first | omega | (intros; first | omega | (refine ⟨by omega, ?_⟩; simp_all; done) | (simp_all; done) | (simp_all; omega))) fun _ => ?_; (try simp ))
              exact hq1 (k + 1) _ (by omega) (by omega) (by simp)
          · simp at hk1
            try simp 
            apply he1
            try simp 
            repeat (refine PreK.intro (by first | omega | (intros; first | omega | (refine ⟨by omega, ?_⟩; simp_all; done) | (simp_all; done) | (simp_all; omega))) fun _ => ?_; (try simp ))
            cases found
            · refine CondK.ff ?_
              try simp 
              try simp 
              repeat (refine PreK.intro (by first | omega | (intros; first | omega | (refine ⟨by omega, ?_⟩; simp_all; done) | (simp_all; done) | (simp_all; omega))) fun _ => ?_; (try simp ))
              try simp 
              repeat' (first
                | (refine CallX.pure (hU) (by simp) (by simp) ?_; try simp )
                | (refine CallK.intro (hU) (by simp) (by simp) ?_; try simp )
                | (refine CallG.intro (fun _ => hU) (by simp) (by simp) ?_; try simp )
                | ((with_reducible refine PreK.intro ?_ ?_); (next => (first | omega | (intros; first | omega | (refine ⟨by omega, ?_⟩; repeat (first | assumption | constructor)) | assumption))); intro _; try simp )
                | fail)
              refine CondK.intro (fun hu1 => ?_) (fun hu1 => ?_)
              · exfalso
                simp at hu1
                omega
              · clear hu1
                by_cases hu0 : ul.length = 0
                · have hun : ul = [] := List.eq_nil_of_length_eq_zero hu0
                  subst hun
                  try simp 
                  repeat (refine PreK.intro (by first | omega | (intros; first | omega | (refine ⟨by omega, ?_⟩; simp_all; done) | (simp_all; done) | (simp_all; omega))) fun _ => ?_; (try simp ))
                  refine CondK.tt ?_
                  try simp 
                  try simp 
                  repeat' (first
                    | ((with_reducible refine PreK.intro ?_ ?_); (next => (first | omega | (intros; first | omega | (refine ⟨by omega, ?_⟩; repeat (first | assumption | constructor)) | assumption))); intro _; try simp )
                    | fail)
                · have hu2 : ¬ ul = [] := fun e => hu0 (by rw [e]; rfl)
                  have hup : 0 < ul.length := by omega
                  have hul1 : ul.length - 1 < ul.length := by omega
                  have hun1 : ((ul.length : Int) - 1).toNat = ul.length - 1 := by omega
                  have hun2 : (0 : Int) ≤ (ul.length : Int) - 1 := by omega
                  have hun3 : (ul.length : Int) - 1 < ul.length := by omega
                  obtain ⟨t1, t2⟩ := hTU hup
                  have hW := hTw (el ul (ul.length - 1))
                  have hRr := hTr (el ul (ul.length - 1))
                  rw [t2] at hRr
                  generalize WithoutR s (el ul (ul.length - 1)) = Wo at t1 hW hRr
                  obtain ⟨wo, x0⟩ := Wo
                  dsimp only at t1 hW hRr
                  subst t1
                  have hsl2 := sameLists_c L L (by simp only [big]; omega) (fun x hx => by have := hRs x hx; simp only [big]; omega)
                  try simp [hu2]
                  repeat (refine PreK.intro (by first | omega | (intros; first | omega | (refine ⟨by omega, ?_⟩; simp_all; done) | (simp_all; done) | (simp_all; omega))) fun _ => ?_; (try simp [hu2]))
                  refine CondK.ff ?_
                  try simp 
                  try simp [hup, hul1, hun1, hun2, hun3]
                  repeat (refine PreK.intro (by first | omega | (intros; first | omega | (refine ⟨by omega, ?_⟩; simp_all; done) | (simp_all; done) | (simp_all; omega))) fun _ => ?_; (try simp [hup, hul1, hun1, hun2, hun3]))
                  try simp [hup, hul1, hun1, hun2, hun3]
                  repeat' (first
                    | (refine CallX.pure (hW) (by simp) (by simp) ?_; try simp [hup, hul1, hun1, hun2, hun3])
                    | (refine CallK.intro (hW) (by simp) (by simp) ?_; try simp [hup, hul1, hun1, hun2, hun3])
                    | (refine CallG.intro (fun _ => hW) (by simp) (by simp) ?_; try simp [hup, hul1, hun1, hun2, hun3])
                    | (refine CallX.pure (hRr) (by simp) (by simp) ?_; try simp [hup, hul1, hun1, hun2, hun3])
                    | (refine CallK.intro (hRr) (by simp) (by simp) ?_; try simp [hup, hul1, hun1, hun2, hun3])
                    | (refine CallG.intro (fun _ => hRr) (by simp) (by simp) ?_; try simp [hup, hul1, hun1, hun2, hun3])
                    | (refine CallX.pure (hsl2) (by simp) (by simp) ?_; try simp [hup, hul1, hun1, hun2, hun3])
                    | (refine CallK.intro (hsl2) (by simp) (by simp) ?_; try simp [hup, hul1, hun1, hun2, hun3])
                    | (refine CallG.intro (fun _ => hsl2) (by simp) (by simp) ?_; try simp [hup, hul1, hun1, hun2, hun3])
                    | ((with_reducible refine PreK.intro ?_ ?_); (next => (first | omega | (intros; first | omega | (refine ⟨by omega, ?_⟩; repeat (first | assumption | constructor)) | assumption))); intro _; try simp [hup, hul1, hun1, hun2, hun3])
                    | fail)
            · have hck := ck rfl
              rw [hck] at hCk
              have hsv := same1_c v v (by simp only [big]; omega)
              have hple := hPl rfl
              refine CondK.tt ?_
              try simp 
              try simp 
              repeat' (first
                | (refine CallX.pure (hCk) (by simp) (by simp) ?_; try simp )
                | (refine CallK.intro (hCk) (by simp) (by simp) ?_; try simp )
                | (refine CallG.intro (fun _ => hCk) (by simp) (by simp) ?_; try simp )
                | (refine CallX.pure (hJ) (by simp) (by simp) ?_; try simp )
                | (refine CallK.intro (hJ) (by simp) (by simp) ?_; try simp )
                | (refine CallG.intro (fun _ => hJ) (by simp) (by simp) ?_; try simp )
                | (refine CallX.pure (hsv) (by simp) (by simp) ?_; try simp )
                | (refine CallK.intro (hsv) (by simp) (by simp) ?_; try simp )
                | (refine CallG.intro (fun _ => hsv) (by simp) (by simp) ?_; try simp )
                | ((with_reducible refine PreK.intro ?_ ?_); (next => (first | omega | (intros; first | omega | (refine ⟨by omega, ?_⟩; repeat (first | assumption | constructor)) | assumption))); intro _; try simp )
                | fail)
              have hpn : ¬ n < (pa.length : Int) := by have := hple rfl; omega
              try simp [hpn]
              repeat (refine PreK.intro (by first | omega | (intros; first | omega | (refine ⟨by omega, ?_⟩; simp_all; done) | (simp_all; done) | (simp_all; omega))) fun _ => ?_; (try simp [hpn]))
              refine CondK.ff ?_
              try simp 
              try simp 
              repeat (refine PreK.intro (by first | omega | (intros; first | omega | (refine ⟨by omega, ?_⟩; simp_all; done) | (simp_all; done) | (simp_all; omega))) fun _ => ?_; (try simp ))
              try simp 
              repeat' (first
                | (refine CallX.pure (hU) (by simp) (by simp) ?_; try simp )
                | (refine CallK.intro (hU) (by simp) (by simp) ?_; try simp )
                | (refine CallG.intro (fun _ => hU) (by simp) (by simp) ?_; try simp )
                | ((with_reducible refine PreK.intro ?_ ?_); (next => (first | omega | (intros; first | omega | (refine ⟨by omega, ?_⟩; repeat (first | assumption | constructor)) | assumption))); intro _; try simp )
                | fail)
              refine CondK.intro (fun hu1 => ?_) (fun hu1 => ?_)
              · exfalso
                simp at hu1
                omega
              · clear hu1
                by_cases hu0 : ul.length = 0
                · have hun : ul = [] := List.eq_nil_of_length_eq_zero hu0
                  subst hun
                  try simp 
                  repeat (refine PreK.intro (by first | omega | (intros; first | omega | (refine ⟨by omega, ?_⟩; simp_all; done) | (simp_all; done) | (simp_all; omega))) fun _ => ?_; (try simp ))
                  refine CondK.tt ?_
                  try simp 
                  try simp 
                  repeat' (first
                    | ((with_reducible refine PreK.intro ?_ ?_); (next => (first | omega | (intros; first | omega | (refine ⟨by omega, ?_⟩; repeat (first | assumption | constructor)) | assumption))); intro _; try simp )
                    | fail)
                · have hu2 : ¬ ul = [] := fun e => hu0 (by rw [e]; rfl)
                  have hup : 0 < ul.length := by omega
                  have hul1 : ul.length - 1 < ul.length := by omega
                  have hun1 : ((ul.length : Int) - 1).toNat = ul.length - 1 := by omega
                  have hun2 : (0 : Int) ≤ (ul.length : Int) - 1 := by omega
                  have hun3 : (ul.length : Int) - 1 < ul.length := by omega
                  obtain ⟨t1, t2⟩ := hTU hup
                  have hW := hTw (el ul (ul.length - 1))
                  have hRr := hTr (el ul (ul.length - 1))
                  rw [t2] at hRr
                  generalize WithoutR s (el ul (ul.length - 1)) = Wo at t1 hW hRr
                  obtain ⟨wo, x0⟩ := Wo
                  dsimp only at t1 hW hRr
                  subst t1
                  have hsl2 := sameLists_c L L (by simp only [big]; omega) (fun x hx => by have := hRs x hx; simp only [big]; omega)
                  try simp [hu2]
                  repeat (refine PreK.intro (by first | omega | (intros; first | omega | (refine ⟨by omega, ?_⟩; simp_all; done) | (simp_all; done) | (simp_all; omega))) fun _ => ?_; (try simp [hu2]))
                  refine CondK.ff ?_
                  try simp 
                  try simp [hup, hul1, hun1, hun2, hun3]
                  repeat (refine PreK.intro (by first | omega | (intros; first | omega | (refine ⟨by omega, ?_⟩; simp_all; done) | (simp_all; done) | (simp_all; omega))) fun _ => ?_; (try simp [hup, hul1, hun1, hun2, hun3]))
                  try simp [hup, hul1, hun1, hun2, hun3]
                  repeat' (first
                    | (refine CallX.pure (hW) (by simp) (by simp) ?_; try simp [hup, hul1, hun1, hun2, hun3])
                    | (refine CallK.intro (hW) (by simp) (by simp) ?_; try simp [hup, hul1, hun1, hun2, hun3])
                    | (refine CallG.intro (fun _ => hW) (by simp) (by simp) ?_; try simp [hup, hul1, hun1, hun2, hun3])
                    | (refine CallX.pure (hRr) (by simp) (by simp) ?_; try simp [hup, hul1, hun1, hun2, hun3])
                    | (refine CallK.intro (hRr) (by simp) (by simp) ?_; try simp [hup, hul1, hun1, hun2, hun3])
                    | (refine CallG.intro (fun _ => hRr) (by simp) (by simp) ?_; try simp [hup, hul1, hun1, hun2, hun3])
                    | (refine CallX.pure (hsl2) (by simp) (by simp) ?_; try simp [hup, hul1, hun1, hun2, hun3])
                    | (refine CallK.intro (hsl2) (by simp) (by simp) ?_; try simp [hup, hul1, hun1, hun2, hun3])
                    | (refine CallG.intro (fun _ => hsl2) (by simp) (by simp) ?_; try simp [hup, hul1, hun1, hun2, hun3])
                    | ((with_reducible refine PreK.intro ?_ ?_); (next => (first | omega | (intros; first | omega | (refine ⟨by omega, ?_⟩; repeat (first | assumption | constructor)) | assumption))); intro _; try simp [hup, hul1, hun1, hun2, hun3])
                    | fail)
        · obtain ⟨g1, _, g3, g4⟩ := wh rfl
          have hWe1 := hWe rfl
          have hWc1 := hWc rfl
          rw [g4] at hWc1
          generalize WeighR wl w = Wg at g1 g3 hWe1
          obtain ⟨sum, x1⟩ := Wg
          dsimp only at g1 g3 hWe1
          subst g1
          have hns : ¬ sum < n := by omega
          refine CondK.tt ?_
          try simp 
          try simp [hns]
          repeat' (first
            | (refine CallX.pure (hWe1) (by simp) (by simp) ?_; try simp [hns])
            | (refine CallK.intro (hWe1) (by simp) (by simp) ?_; try simp [hns])
            | (refine CallG.intro (fun _ => hWe1) (by simp) (by simp) ?_; try simp [hns])
            | (refine CallX.pure (hWc1) (by simp) (by simp) ?_; try simp [hns])
            | (refine CallK.intro (hWc1) (by simp) (by simp) ?_; try simp [hns])
            | (refine CallG.intro (fun _ => hWc1) (by simp) (by simp) ?_; try simp [hns])
            | ((with_reducible refine PreK.intro ?_ ?_); (next => (first | omega | (intros; first | omega | (refine ⟨by omega, ?_⟩; repeat (first | assumption | constructor)) | assumption))); intro _; try simp [hns])
            | fail)
          refine CondK.ff ?_
          try simp 
          try simp 
          repeat (refine PreK.intro (by first | omega | (intros; first | omega | (refine ⟨by omega, ?_⟩; simp_all; done) | (simp_all; done) | (simp_all; omega))) fun _ => ?_; (try simp ))
          obtain ⟨hwl, q, hq, hqe⟩ := pick_in2 pick L.length l0 l300
          have hv := el_mem_of L q hq
          obtain ⟨n0, i0, p0, ie, _, plen, ck, jn, _, v8, xl⟩ := hTV _ hv
          have hNx := hnx _ hv
          have hPl := hTp _ hv
          have hN := Next_c s (el L q) hs (by omega)
          have hI := IsEnd_c s (el L q) hs (by omega)
          have hP := Path_c s w (el L q) hs hw (by omega)
          have hCk := CheckPath_c s w (PathR s w (el L q)).1 hs hw (by omega)
          have hJ := Join_c s w (el L q) hs hw (by omega)
          rw [jn] at hJ
          have hL0 : ¬ L = [] := fun e => by rw [e] at l0; simp at l0
          try simp [hwl, hqe, hq, hL0]
          repeat (refine PreK.intro (by first | omega | (intros; first | omega | (refine ⟨by omega, ?_⟩; simp_all; done) | (simp_all; done) | (simp_all; omega))) fun _ => ?_; (try simp [hwl, hqe, hq, hL0]))
          generalize NextE s (el L q) = Nx at n0 ie hNx hN xl
          generalize IsEndR s (el L q) = Ie at i0 ie hI
          generalize PathR s w (el L q) = Pa at p0 plen ck hPl hP hCk
          obtain ⟨X, y0⟩ := Nx
          obtain ⟨en, y1⟩ := Ie
          obtain ⟨pa, found, y2⟩ := Pa
          dsimp only at *
          subst n0 i0 p0 ie
          generalize hvq : el L q = v at *
          try simp 
          repeat' (first
            | (refine CallX.pure (hN) (by simp) (by simp) ?_; try simp )
            | (refine CallK.intro (hN) (by simp) (by simp) ?_; try simp )
            | (refine CallG.intro (fun _ => hN) (by simp) (by simp) ?_; try simp )
            | (refine CallX.pure (hI) (by simp) (by simp) ?_; try simp )
            | (refine CallK.intro (hI) (by simp) (by simp) ?_; try simp )
            | (refine CallG.intro (fun _ => hI) (by simp) (by simp) ?_; try simp )
            | (refine CallX.pure (hP) (by simp) (by simp) ?_; try simp )
            | (refine CallK.intro (hP) (by simp) (by simp) ?_; try simp )
            | (refine CallG.intro (fun _ => hP) (by simp) (by simp) ?_; try simp )
            | ((with_reducible refine PreK.intro ?_ ?_); (next => (first | omega | (intros; first | omega | (refine ⟨by omega, ?_⟩; repeat (first | assumption | constructor)) | assumption))); intro _; try simp )
            | fail)
          refine CondK.ff ?_
          try simp 
          try simp 
          repeat (refine PreK.intro (by first | omega | (intros; first | omega | (refine ⟨by omega, ?_⟩; simp_all; done) | (simp_all; done) | (simp_all; omega))) fun _ => ?_; (try simp ))
          refine LoopK.by (ι := Nat) (fun k => ⟨[(32, iv k), (31, bv found), (30, stepsV pa), (28, wordsV X), (27, ints v), (13, bv true), (12, iv n), (10, wordsV L), (0, rulesV s), (1, ints w)], []⟩) (fun k => X.length - k) (fun k => k ≤ X.length) 0 (Nat.zero_le _) (by simp) ?_
          intro k Q1 hk hq1 he1 hr1
          try simp 
          refine CondK.intro (fun hk1 => ?_) (fun hk1 => ?_)
          · simp at hk1
            have hxm := hNx _ (el_mem_of X k hk1)
            try simp [hk1]
            repeat (refine PreK.intro (by first | omega | (intros; first | omega | (refine ⟨by omega, ?_⟩; simp_all; done) | (simp_all; done) | (simp_all; omega))) fun _ => ?_; (try simp [hk1]))
            refine LoopK.by (ι := Nat × Bool) (fun x => ⟨[(34, iv x.1), (33, bv x.2), (32, iv k), (31, bv found), (30, stepsV pa), (28, wordsV X), (27, ints v), (13, bv true), (12, iv n), (10, wordsV L), (0, rulesV s), (1, ints w)], []⟩) (fun x => L.length - x.1)
              (fun x => x.1 ≤ L.length ∧ x.2 = (L.take x.1).any fun y => decide (y = el X k)) (0, false) ⟨Nat.zero_le _, rfl⟩ (by simp) ?_
            intro ⟨m, b⟩ Q2 ⟨hm, hb2⟩ hq2 he2 hr2
            dsimp only at hm hb2
            try simp 
            refine CondK.intro (fun hm1 => ?_) (fun hm1 => ?_)
            · simp at hm1
              have htk : (L.take (m + 1)).any (fun y => decide (y = el X k)) = (b || decide (el L m = el X k)) := by rw [take_succ L m hm1, hb2]; simp
              cases b
              · have hsm := same1_c (el L m) (el X k) (by have := hRs _ (el_mem_of L m hm1); simp only [big]; omega)
                try simp [hm1, hk1]
                repeat (refine PreK.intro (by first | omega | (intros; first | omega | (refine ⟨by omega, ?_⟩; simp_all; done) | (simp_all; done) | (simp_all; omega))) fun _ => ?_; (try simp [hm1, hk1]))
                refine CallG.intro (fun _ => by simpa using hsm) (by simp) (by simp) ?_
                try simp 
                repeat (refine PreK.intro (by first | omega | (intros; first | omega | (refine ⟨by omega, ?_⟩; simp_all; done) | (simp_all; done) | (simp_all; omega))) fun _ => ?_; (try simp ))
                refine hq2 (m + 1, decide (el L m = el X k)) _ ⟨by dsimp only; omega, by rw [htk]; simp⟩ (by dsimp only; omega) (by simp)
              · try simp [hm1, hk1]
                repeat (refine PreK.intro (by first | omega | (intros; first | omega | (refine ⟨by omega, ?_⟩; simp_all; done) | (simp_all; done) | (simp_all; omega))) fun _ => ?_; (try simp [hm1, hk1]))
                refine CallG.intro (r := bv true) (fun hh => by cases hh) (by simp) (by simp) ?_
                try simp 
                repeat (refine PreK.intro (by first | omega | (intros; first | omega | (refine ⟨by omega, ?_⟩; simp_all; done) | (simp_all; done) | (simp_all; omega))) fun _ => ?_; (try simp ))
                refine hq2 (m + 1, true) _ ⟨by dsimp only; omega, by rw [htk]; simp⟩ (by dsimp only; omega) (by simp)
            · simp at hm1
              have hbt : b = true := by
                rw [hb2, List.take_of_length_le (by omega), List.any_eq_true]
                exact ⟨_, hxm, by simp⟩
              subst hbt
              try simp 
              apply he2
              try simp 
              repeat (refine PreK.intro (by first | omega | (intros; first | omega | (refine ⟨by omega, ?_⟩; simp_all; done) | (simp_all; done) | (simp_all; omega))) fun _ => ?_; (try simp ))
              refine CondK.ff ?_
              try simp 
              try simp 
              repeat (refine PreK.intro (by first | omega | (intros; first | omega | (refine ⟨by omega, ?_⟩; simp_all; done) | (simp_all; done) | (simp_all; omega))) fun _ => ?_; (try simp ))
              exact hq1 (k + 1) _ (by omega) (by omega) (by simp)
          · simp at hk1
            try simp 
            apply he1
            try simp 
            repeat (refine PreK.intro (by first | omega | (intros; first | omega | (refine ⟨by omega, ?_⟩; simp_all; done) | (simp_all; done) | (simp_all; omega))) fun _ => ?_; (try simp ))
            cases found
            · refine CondK.ff ?_
              try simp 
              try simp 
              repeat (refine PreK.intro (by first | omega | (intros; first | omega | (refine ⟨by omega, ?_⟩; simp_all; done) | (simp_all; done) | (simp_all; omega))) fun _ => ?_; (try simp ))
              try simp 
              repeat' (first
                | (refine CallX.pure (hU) (by simp) (by simp) ?_; try simp )
                | (refine CallK.intro (hU) (by simp) (by simp) ?_; try simp )
                | (refine CallG.intro (fun _ => hU) (by simp) (by simp) ?_; try simp )
                | ((with_reducible refine PreK.intro ?_ ?_); (next => (first | omega | (intros; first | omega | (refine ⟨by omega, ?_⟩; repeat (first | assumption | constructor)) | assumption))); intro _; try simp )
                | fail)
              refine CondK.intro (fun hu1 => ?_) (fun hu1 => ?_)
              · exfalso
                simp at hu1
                omega
              · clear hu1
                by_cases hu0 : ul.length = 0
                · have hun : ul = [] := List.eq_nil_of_length_eq_zero hu0
                  subst hun
                  try simp 
                  repeat (refine PreK.intro (by first | omega | (intros; first | omega | (refine ⟨by omega, ?_⟩; simp_all; done) | (simp_all; done) | (simp_all; omega))) fun _ => ?_; (try simp ))
                  refine CondK.tt ?_
                  try simp 
                  try simp 
                  repeat' (first
                    | ((with_reducible refine PreK.intro ?_ ?_); (next => (first | omega | (intros; first | omega | (refine ⟨by omega, ?_⟩; repeat (first | assumption | constructor)) | assumption))); intro _; try simp )
                    | fail)
                · have hu2 : ¬ ul = [] := fun e => hu0 (by rw [e]; rfl)
                  have hup : 0 < ul.length := by omega
                  have hul1 : ul.length - 1 < ul.length := by omega
                  have hun1 : ((ul.length : Int) - 1).toNat = ul.length - 1 := by omega
                  have hun2 : (0 : Int) ≤ (ul.length : Int) - 1 := by omega
                  have hun3 : (ul.length : Int) - 1 < ul.length := by omega
                  obtain ⟨t1, t2⟩ := hTU hup
                  have hW := hTw (el ul (ul.length - 1))
                  have hRr := hTr (el ul (ul.length - 1))
                  rw [t2] at hRr
                  generalize WithoutR s (el ul (ul.length - 1)) = Wo at t1 hW hRr
                  obtain ⟨wo, x0⟩ := Wo
                  dsimp only at t1 hW hRr
                  subst t1
                  have hsl2 := sameLists_c L L (by simp only [big]; omega) (fun x hx => by have := hRs x hx; simp only [big]; omega)
                  try simp [hu2]
                  repeat (refine PreK.intro (by first | omega | (intros; first | omega | (refine ⟨by omega, ?_⟩; simp_all; done) | (simp_all; done) | (simp_all; omega))) fun _ => ?_; (try simp [hu2]))
                  refine CondK.ff ?_
                  try simp 
                  try simp [hup, hul1, hun1, hun2, hun3]
                  repeat (refine PreK.intro (by first | omega | (intros; first | omega | (refine ⟨by omega, ?_⟩; simp_all; done) | (simp_all; done) | (simp_all; omega))) fun _ => ?_; (try simp [hup, hul1, hun1, hun2, hun3]))
                  try simp [hup, hul1, hun1, hun2, hun3]
                  repeat' (first
                    | (refine CallX.pure (hW) (by simp) (by simp) ?_; try simp [hup, hul1, hun1, hun2, hun3])
                    | (refine CallK.intro (hW) (by simp) (by simp) ?_; try simp [hup, hul1, hun1, hun2, hun3])
                    | (refine CallG.intro (fun _ => hW) (by simp) (by simp) ?_; try simp [hup, hul1, hun1, hun2, hun3])
                    | (refine CallX.pure (hRr) (by simp) (by simp) ?_; try simp [hup, hul1, hun1, hun2, hun3])
                    | (refine CallK.intro (hRr) (by simp) (by simp) ?_; try simp [hup, hul1, hun1, hun2, hun3])
                    | (refine CallG.intro (fun _ => hRr) (by simp) (by simp) ?_; try simp [hup, hul1, hun1, hun2, hun3])
                    | (refine CallX.pure (hsl2) (by simp) (by simp) ?_; try simp [hup, hul1, hun1, hun2, hun3])
                    | (refine CallK.intro (hsl2) (by simp) (by simp) ?_; try simp [hup, hul1, hun1, hun2, hun3])
                    | (refine CallG.intro (fun _ => hsl2) (by simp) (by simp) ?_; try simp [hup, hul1, hun1, hun2, hun3])
                    | ((with_reducible refine PreK.intro ?_ ?_); (next => (first | omega | (intros; first | omega | (refine ⟨by omega, ?_⟩; repeat (first | assumption | constructor)) | assumption))); intro _; try simp [hup, hul1, hun1, hun2, hun3])
                    | fail)
            · have hck := ck rfl
              rw [hck] at hCk
              have hsv := same1_c v v (by simp only [big]; omega)
              have hple := hPl rfl
              refine CondK.tt ?_
              try simp 
              try simp 
              repeat' (first
                | (refine CallX.pure (hCk) (by simp) (by simp) ?_; try simp )
                | (refine CallK.intro (hCk) (by simp) (by simp) ?_; try simp )
                | (refine CallG.intro (fun _ => hCk) (by simp) (by simp) ?_; try simp )
                | (refine CallX.pure (hJ) (by simp) (by simp) ?_; try simp )
                | (refine CallK.intro (hJ) (by simp) (by simp) ?_; try simp )
                | (refine CallG.intro (fun _ => hJ) (by simp) (by simp) ?_; try simp )
                | (refine CallX.pure (hsv) (by simp) (by simp) ?_; try simp )
                | (refine CallK.intro (hsv) (by simp) (by simp) ?_; try simp )
                | (refine CallG.intro (fun _ => hsv) (by simp) (by simp) ?_; try simp )
                | ((with_reducible refine PreK.intro ?_ ?_); (next => (first | omega | (intros; first | omega | (refine ⟨by omega, ?_⟩; repeat (first | assumption | constructor)) | assumption))); intro _; try simp )
                | fail)
              have hpn : ¬ n < (pa.length : Int) := by have := hple rfl; omega
              try simp [hpn]
              repeat (refine PreK.intro (by first | omega | (intros; first | omega | (refine ⟨by omega, ?_⟩; simp_all; done) | (simp_all; done) | (simp_all; omega))) fun _ => ?_; (try simp [hpn]))
              refine CondK.ff ?_
              try simp 
              try simp 
              repeat (refine PreK.intro (by first | omega | (intros; first | omega | (refine ⟨by omega, ?_⟩; simp_all; done) | (simp_all; done) | (simp_all; omega))) fun _ => ?_; (try simp ))
              try simp 
              repeat' (first
                | (refine CallX.pure (hU) (by simp) (by simp) ?_; try simp )
                | (refine CallK.intro (hU) (by simp) (by simp) ?_; try simp )
                | (refine CallG.intro (fun _ => hU) (by simp) (by simp) ?_; try simp )
                | ((with_reducible refine PreK.intro ?_ ?_); (next => (first | omega | (intros; first | omega | (refine ⟨by omega, ?_⟩; repeat (first | assumption | constructor)) | assumption))); intro _; try simp )
                | fail)
              refine CondK.intro (fun hu1 => ?_) (fun hu1 => ?_)
              · exfalso
                simp at hu1
                omega
              · clear hu1
                by_cases hu0 : ul.length = 0
                · have hun : ul = [] := List.eq_nil_of_length_eq_zero hu0
                  subst hun
                  try simp 
                  repeat (refine PreK.intro (by first | omega | (intros; first | omega | (refine ⟨by omega, ?_⟩; simp_all; done) | (simp_all; done) | (simp_all; omega))) fun _ => ?_; (try simp ))
                  refine CondK.tt ?_
                  try simp 
                  try simp 
                  repeat' (first
                    | ((with_reducible refine PreK.intro ?_ ?_); (next => (first | omega | (intros; first | omega | (refine ⟨by omega, ?_⟩; repeat (first | assumption | constructor)) | assumption))); intro _; try simp )
                    | fail)
                · have hu2 : ¬ ul = [] := fun e => hu0 (by rw [e]; rfl)
                  have hup : 0 < ul.length := by omega
                  have hul1 : ul.length - 1 < ul.length := by omega
                  have hun1 : ((ul.length : Int) - 1).toNat = ul.length - 1 := by omega
                  have hun2 : (0 : Int) ≤ (ul.length : Int) - 1 := by omega
                  have hun3 : (ul.length : Int) - 1 < ul.length := by omega
                  obtain ⟨t1, t2⟩ := hTU hup
                  have hW := hTw (el ul (ul.length - 1))
                  have hRr := hTr (el ul (ul.length - 1))
                  rw [t2] at hRr
                  generalize WithoutR s (el ul (ul.length - 1)) = Wo at t1 hW hRr
                  obtain ⟨wo, x0⟩ := Wo
                  dsimp only at t1 hW hRr
                  subst t1
                  have hsl2 := sameLists_c L L (by simp only [big]; omega) (fun x hx => by have := hRs x hx; simp only [big]; omega)
                  try simp [hu2]
                  repeat (refine PreK.intro (by first | omega | (intros; first | omega | (refine ⟨by omega, ?_⟩; simp_all; done) | (simp_all; done) | (simp_all; omega))) fun _ => ?_; (try simp [hu2]))
                  refine CondK.ff ?_
                  try simp 
                  try simp [hup, hul1, hun1, hun2, hun3]
                  repeat (refine PreK.intro (by first | omega | (intros; first | omega | (refine ⟨by omega, ?_⟩; simp_all; done) | (simp_all; done) | (simp_all; omega))) fun _ => ?_; (try simp [hup, hul1, hun1, hun2, hun3]))
                  try simp [hup, hul1, hun1, hun2, hun3]
                  repeat' (first
                    | (refine CallX.pure (hW) (by simp) (by simp) ?_; try simp [hup, hul1, hun1, hun2, hun3])
                    | (refine CallK.intro (hW) (by simp) (by simp) ?_; try simp [hup, hul1, hun1, hun2, hun3])
                    | (refine CallG.intro (fun _ => hW) (by simp) (by simp) ?_; try simp [hup, hul1, hun1, hun2, hun3])
                    | (refine CallX.pure (hRr) (by simp) (by simp) ?_; try simp [hup, hul1, hun1, hun2, hun3])
                    | (refine CallK.intro (hRr) (by simp) (by simp) ?_; try simp [hup, hul1, hun1, hun2, hun3])
                    | (refine CallG.intro (fun _ => hRr) (by simp) (by simp) ?_; try simp [hup, hul1, hun1, hun2, hun3])
                    | (refine CallX.pure (hsl2) (by simp) (by simp) ?_; try simp [hup, hul1, hun1, hun2, hun3])
                    | (refine CallK.intro (hsl2) (by simp) (by simp) ?_; try simp [hup, hul1, hun1, hun2, hun3])
                    | (refine CallG.intro (fun _ => hsl2) (by simp) (by simp) ?_; try simp [hup, hul1, hun1, hun2, hun3])
                    | ((with_reducible refine PreK.intro ?_ ?_); (next => (first | omega | (intros; first | omega | (refine ⟨by omega, ?_⟩; repeat (first | assumption | constructor)) | assumption))); intro _; try simp [hup, hul1, hun1, hun2, hun3])
                    | fail)
      · have e6 : oneR true E = ([], false) := by simp [oneR, hE1]
        rw [e6] at hone1 hone2
        dsimp only at hone1 hone2
        subst hone1 hone2
        have hE0 : 0 < E.length := hends rfl
        have hEn0 : ¬ E = [] := fun e => by rw [e] at hE0; simp at hE0
        have hEi : ¬ (E.length : Int) = 1 := by omega
        have hnl : ¬ (L.length : Int) ≤ n := by have := hshort rfl; omega
        have hcf : calm = false := by
          cases calm
          · rfl
          · exact absurd (hcalm rfl rfl) (by simp)
        subst hcf
        try simp [hEn0, hnl]
        repeat (refine PreK.intro (by first | omega | (intros; first | omega | (refine ⟨by omega, ?_⟩; simp_all; done) | (simp_all; done) | (simp_all; omega))) fun _ => ?_; (try simp [hEn0, hnl]))
        refine CondK.ff ?_
        try simp 
        try simp [hE1, hEi, hE0]
        repeat (refine PreK.intro (by first | omega | (intros; first | omega | (refine ⟨by omega, ?_⟩; simp_all; done) | (simp_all; done) | (simp_all; omega))) fun _ => ?_; (try simp [hE1, hEi, hE0]))
        refine CallG.intro (r := bv true) (fun hh => by cases hh) (by simp) (by simp) ?_
        try simp [hE1, hEi]
        repeat (refine PreK.intro (by first | omega | (intros; first | omega | (refine ⟨by omega, ?_⟩; simp_all; done) | (simp_all; done) | (simp_all; omega))) fun _ => ?_; (try simp [hE1, hEi]))
        refine CondK.ff ?_
        try simp 
        try simp 
        repeat (refine PreK.intro (by first | omega | (intros; first | omega | (refine ⟨by omega, ?_⟩; simp_all; done) | (simp_all; done) | (simp_all; omega))) fun _ => ?_; (try simp ))
        try simp 
        repeat' (first
          | (refine CallX.pure (hWt) (by simp) (by simp) ?_; try simp )
          | (refine CallK.intro (hWt) (by simp) (by simp) ?_; try simp )
          | (refine CallG.intro (fun _ => hWt) (by simp) (by simp) ?_; try simp )
          | ((with_reducible refine PreK.intro ?_ ?_); (next => (first | omega | (intros; first | omega | (refine ⟨by omega, ?_⟩; repeat (first | assumption | constructor)) | assumption))); intro _; try simp )
          | fail)
        refine CondK.ff ?_
        try simp 
        try simp 
        repeat (refine PreK.intro (by first | omega | (intros; first | omega | (refine ⟨by omega, ?_⟩; simp_all; done) | (simp_all; done) | (simp_all; omega))) fun _ => ?_; (try simp ))
        cases holds
        · refine CondK.ff ?_
          try simp 
          try simp 
          repeat (refine PreK.intro (by first | omega | (intros; first | omega | (refine ⟨by omega, ?_⟩; simp_all; done) | (simp_all; done) | (simp_all; omega))) fun _ => ?_; (try simp ))
          obtain ⟨hwl, q, hq, hqe⟩ := pick_in2 pick L.length l0 l300
          have hv := el_mem_of L q hq
          obtain ⟨n0, i0, p0, ie, _, plen, ck, jn, _, v8, xl⟩ := hTV _ hv
          have hNx := hnx _ hv
          have hPl := hTp _ hv
          have hN := Next_c s (el L q) hs (by omega)
          have hI := IsEnd_c s (el L q) hs (by omega)
          have hP := Path_c s w (el L q) hs hw (by omega)
          have hCk := CheckPath_c s w (PathR s w (el L q)).1 hs hw (by omega)
          have hJ := Join_c s w (el L q) hs hw (by omega)
          rw [jn] at hJ
          have hL0 : ¬ L = [] := fun e => by rw [e] at l0; simp at l0
          try simp [hwl, hqe, hq, hL0]
          repeat (refine PreK.intro (by first | omega | (intros; first | omega | (refine ⟨by omega, ?_⟩; simp_all; done) | (simp_all; done) | (simp_all; omega))) fun _ => ?_; (try simp [hwl, hqe, hq, hL0]))
          generalize NextE s (el L q) = Nx at n0 ie hNx hN xl
          generalize IsEndR s (el L q) = Ie at i0 ie hI
          generalize PathR s w (el L q) = Pa at p0 plen ck hPl hP hCk
          obtain ⟨X, y0⟩ := Nx
          obtain ⟨en, y1⟩ := Ie
          obtain ⟨pa, found, y2⟩ := Pa
          dsimp only at *
          subst n0 i0 p0 ie
          generalize hvq : el L q = v at *
          try simp 
          repeat' (first
            | (refine CallX.pure (hN) (by simp) (by simp) ?_; try simp )
            | (refine CallK.intro (hN) (by simp) (by simp) ?_; try simp )
            | (refine CallG.intro (fun _ => hN) (by simp) (by simp) ?_; try simp )
            | (refine CallX.pure (hI) (by simp) (by simp) ?_; try simp )
            | (refine CallK.intro (hI) (by simp) (by simp) ?_; try simp )
            | (refine CallG.intro (fun _ => hI) (by simp) (by simp) ?_; try simp )
            | (refine CallX.pure (hP) (by simp) (by simp) ?_; try simp )
            | (refine CallK.intro (hP) (by simp) (by simp) ?_; try simp )
            | (refine CallG.intro (fun _ => hP) (by simp) (by simp) ?_; try simp )
            | ((with_reducible refine PreK.intro ?_ ?_); (next => (first | omega | (intros; first | omega | (refine ⟨by omega, ?_⟩; repeat (first | assumption | constructor)) | assumption))); intro _; try simp )
            | fail)
          refine CondK.ff ?_
          try simp 
          try simp 
          repeat (refine PreK.intro (by first | omega | (intros; first | omega | (refine ⟨by omega, ?_⟩; simp_all; done) | (simp_all; done) | (simp_all; omega))) fun _ => ?_; (try simp ))
          refine LoopK.by (ι := Nat) (fun k => ⟨[(32, iv k), (31, bv found), (30, stepsV pa), (28, wordsV X), (27, ints v), (13, bv true), (12, iv n), (10, wordsV L), (0, rulesV s), (1, ints w)], []⟩) (fun k => X.length - k) (fun k => k ≤ X.length) 0 (Nat.zero_le _) (by simp) ?_
          intro k Q1 hk hq1 he1 hr1
          try simp 
          refine CondK.intro (fun hk1 => ?_) (fun hk1 => ?_)
          · simp at hk1
            have hxm := hNx _ (el_mem_of X k hk1)
            try simp [hk1]
            repeat (refine PreK.intro (by first | omega | (intros; first | omega | (refine ⟨by omega, ?_⟩; simp_all; done) | (simp_all; done) | (simp_all; omega))) fun _ => ?_; (try simp [hk1]))
            refine LoopK.by (ι := Nat × Bool) (fun x => ⟨[(34, iv x.1), (33, bv x.2), (32, iv k), (31, bv found), (30, stepsV pa), (28, wordsV X), (27, ints v), (13, bv true), (12, iv n), (10, wordsV L), (0, rulesV s), (1, ints w)], []⟩) (fun x => L.length - x.1)
              (fun x => x.1 ≤ L.length ∧ x.2 = (L.take x.1).any fun y => decide (y = el X k)) (0, false) ⟨Nat.zero_le _, rfl⟩ (by simp) ?_
            intro ⟨m, b⟩ Q2 ⟨hm, hb2⟩ hq2 he2 hr2
            dsimp only at hm hb2
            try simp 
            refine CondK.intro (fun hm1 => ?_) (fun hm1 => ?_)
            · simp at hm1
              have htk : (L.take (m + 1)).any (fun y => decide (y = el X k)) = (b || decide (el L m = el X k)) := by rw [take_succ L m hm1, hb2]; simp
              cases b
              · have hsm := same1_c (el L m) (el X k) (by have := hRs _ (el_mem_of L m hm1); simp only [big]; omega)
                try simp [hm1, hk1]
                repeat (refine PreK.intro (by first | omega | (intros; first | omega | (refine ⟨by omega, ?_⟩; simp_all; done) | (simp_all; done) | (simp_all; omega))) fun _ => ?_; (try simp [hm1, hk1]))
                refine CallG.intro (fun _ => by simpa using hsm) (by simp) (by simp) ?_
                try simp 
                repeat (refine PreK.intro (by first | omega | (intros; first | omega | (refine ⟨by omega, ?_⟩; simp_all; done) | (simp_all; done) | (simp_all; omega))) fun _ => ?_; (try simp ))
                refine hq2 (m + 1, decide (el L m = el X k)) _ ⟨by dsimp only; omega, by rw [htk]; simp⟩ (by dsimp only; omega) (by simp)
              · try simp [hm1, hk1]
                repeat (refine PreK.intro (by first | omega | (intros; first | omega | (refine ⟨by omega, ?_⟩; simp_all; done) | (simp_all; done) | (simp_all; omega))) fun _ => ?_; (try simp [hm1, hk1]))
                refine CallG.intro (r := bv true) (fun hh => by cases hh) (by simp) (by simp) ?_
                try simp 
                repeat (refine PreK.intro (by first | omega | (intros; first | omega | (refine ⟨by omega, ?_⟩; simp_all; done) | (simp_all; done) | (simp_all; omega))) fun _ => ?_; (try simp ))
                refine hq2 (m + 1, true) _ ⟨by dsimp only; omega, by rw [htk]; simp⟩ (by dsimp only; omega) (by simp)
            · simp at hm1
              have hbt : b = true := by
                rw [hb2, List.take_of_length_le (by omega), List.any_eq_true]
                exact ⟨_, hxm, by simp⟩
              subst hbt
              try simp 
              apply he2
              try simp 
              repeat (refine PreK.intro (by first | omega | (intros; first | omega | (refine ⟨by omega, ?_⟩; simp_all; done) | (simp_all; done) | (simp_all; omega))) fun _ => ?_; (try simp ))
              refine CondK.ff ?_
              try simp 
              try simp 
              repeat (refine PreK.intro (by first | omega | (intros; first | omega | (refine ⟨by omega, ?_⟩; simp_all; done) | (simp_all; done) | (simp_all; omega))) fun _ => ?_; (try simp ))
              exact hq1 (k + 1) _ (by omega) (by omega) (by simp)
          · simp at hk1
            try simp 
            apply he1
            try simp 
            repeat (refine PreK.intro (by first | omega | (intros; first | omega | (refine ⟨by omega, ?_⟩; simp_all; done) | (simp_all; done) | (simp_all; omega))) fun _ => ?_; (try simp ))
            cases found
            · refine CondK.ff ?_
              try simp 
              try simp 
              repeat (refine PreK.intro (by first | omega | (intros; first | omega | (refine ⟨by omega, ?_⟩; simp_all; done) | (simp_all; done) | (simp_all; omega))) fun _ => ?_; (try simp ))
              try simp 
              repeat' (first
                | (refine CallX.pure (hU) (by simp) (by simp) ?_; try simp )
                | (refine CallK.intro (hU) (by simp) (by simp) ?_; try simp )
                | (refine CallG.intro (fun _ => hU) (by simp) (by simp) ?_; try simp )
                | ((with_reducible refine PreK.intro ?_ ?_); (next => (first | omega | (intros; first | omega | (refine ⟨by omega, ?_⟩; repeat (first | assumption | constructor)) | assumption))); intro _; try simp )
                | fail)
              refine CondK.intro (fun hu1 => ?_) (fun hu1 => ?_)
              · exfalso
                simp at hu1
                omega
              · clear hu1
                by_cases hu0 : ul.length = 0
                · have hun : ul = [] := List.eq_nil_of_length_eq_zero hu0
                  subst hun
                  try simp 
                  repeat (refine PreK.intro (by first | omega | (intros; first | omega | (refine ⟨by omega, ?_⟩; simp_all; done) | (simp_all; done) | (simp_all; omega))) fun _ => ?_; (try simp ))
                  refine CondK.tt ?_
                  try simp 
                  try simp 
                  repeat' (first
                    | ((with_reducible refine PreK.intro ?_ ?_); (next => (first | omega | (intros; first | omega | (refine ⟨by omega, ?_⟩; repeat (first | assumption | constructor)) | assumption))); intro _; try simp )
                    | fail)
                · have hu2 : ¬ ul = [] := fun e => hu0 (by rw [e]; rfl)
                  have hup : 0 < ul.length := by omega
                  have hul1 : ul.length - 1 < ul.length := by omega
                  have hun1 : ((ul.length : Int) - 1).toNat = ul.length - 1 := by omega
                  have hun2 : (0 : Int) ≤ (ul.length : Int) - 1 := by omega
                  have hun3 : (ul.length : Int) - 1 < ul.length := by omega
                  obtain ⟨t1, t2⟩ := hTU hup
                  have hW := hTw (el ul (ul.length - 1))
                  have hRr := hTr (el ul (ul.length - 1))
                  rw [t2] at hRr
                  generalize WithoutR s (el ul (ul.length - 1)) = Wo at t1 hW hRr
                  obtain ⟨wo, x0⟩ := Wo
                  dsimp only at t1 hW hRr
                  subst t1
                  have hsl2 := sameLists_c L L (by simp only [big]; omega) (fun x hx => by have := hRs x hx; simp only [big]; omega)
                  try simp [hu2]
                  repeat (refine PreK.intro (by first | omega | (intros; first | omega | (refine ⟨by omega, ?_⟩; simp_all; done) | (simp_all; done) | (simp_all; omega))) fun _ => ?_; (try simp [hu2]))
                  refine CondK.ff ?_
                  try simp 
                  try simp [hup, hul1, hun1, hun2, hun3]
                  repeat (refine PreK.intro (by first | omega | (intros; first | omega | (refine ⟨by omega, ?_⟩; simp_all; done) | (simp_all; done) | (simp_all; omega))) fun _ => ?_; (try simp [hup, hul1, hun1, hun2, hun3]))
                  try simp [hup, hul1, hun1, hun2, hun3]
                  repeat' (first
                    | (refine CallX.pure (hW) (by simp) (by simp) ?_; try simp [hup, hul1, hun1, hun2, hun3])
                    | (refine CallK.intro (hW) (by simp) (by simp) ?_; try simp [hup, hul1, hun1, hun2, hun3])
                    | (refine CallG.intro (fun _ => hW) (by simp) (by simp) ?_; try simp [hup, hul1, hun1, hun2, hun3])
                    | (refine CallX.pure (hRr) (by simp) (by simp) ?_; try simp [hup, hul1, hun1, hun2, hun3])
                    | (refine CallK.intro (hRr) (by simp) (by simp) ?_; try simp [hup, hul1, hun1, hun2, hun3])
                    | (refine CallG.intro (fun _ => hRr) (by simp) (by simp) ?_; try simp [hup, hul1, hun1, hun2, hun3])
                    | (refine CallX.pure (hsl2) (by simp) (by simp) ?_; try simp [hup, hul1, hun1, hun2, hun3])
                    | (refine CallK.intro (hsl2) (by simp) (by simp) ?_; try simp [hup, hul1, hun1, hun2, hun3])
                    | (refine CallG.intro (fun _ => hsl2) (by simp) (by simp) ?_; try simp [hup, hul1, hun1, hun2, hun3])
                    | ((with_reducible refine PreK.intro ?_ ?_); (next => (first | omega | (intros; first | omega | (refine ⟨by omega, ?_⟩; repeat (first | assumption | constructor)) | assumption))); intro _; try simp [hup, hul1, hun1, hun2, hun3])
                    | fail)
            · have hck := ck rfl
              rw [hck] at hCk
              have hsv := same1_c v v (by simp only [big]; omega)
              have hple := hPl rfl
              refine CondK.tt ?_
              try simp 
              try simp 
              repeat' (first
                | (refine CallX.pure (hCk) (by simp) (by simp) ?_; try simp )
                | (refine CallK.intro (hCk) (by simp) (by simp) ?_; try simp )
                | (refine CallG.intro (fun _ => hCk) (by simp) (by simp) ?_; try simp )
                | (refine CallX.pure (hJ) (by simp) (by simp) ?_; try simp )
                | (refine CallK.intro (hJ) (by simp) (by simp) ?_; try simp )
                | (refine CallG.intro (fun _ => hJ) (by simp) (by simp) ?_; try simp )
                | (refine CallX.pure (hsv) (by simp) (by simp) ?_; try simp )
                | (refine CallK.intro (hsv) (by simp) (by simp) ?_; try simp )
                | (refine CallG.intro (fun _ => hsv) (by simp) (by simp) ?_; try simp )
                | ((with_reducible refine PreK.intro ?_ ?_); (next => (first | omega | (intros; first | omega | (refine ⟨by omega, ?_⟩; repeat (first | assumption | constructor)) | assumption))); intro _; try simp )
                | fail)
              have hpn : ¬ n < (pa.length : Int) := by have := hple rfl; omega
              try simp [hpn]
              repeat (refine PreK.intro (by first | omega | (intros; first | omega | (refine ⟨by omega, ?_⟩; simp_all; done) | (simp_all; done) | (simp_all; omega))) fun _ => ?_; (try simp [hpn]))
              refine CondK.ff ?_
              try simp 
              try simp 
              repeat (refine PreK.intro (by first | omega | (intros; first | omega | (refine ⟨by omega, ?_⟩; simp_all; done) | (simp_all; done) | (simp_all; omega))) fun _ => ?_; (try simp ))
              try simp 
              repeat' (first
                | (refine CallX.pure (hU) (by simp) (by simp) ?_; try simp )
                | (refine CallK.intro (hU) (by simp) (by simp) ?_; try simp )
                | (refine CallG.intro (fun _ => hU) (by simp) (by simp) ?_; try simp )
                | ((with_reducible refine PreK.intro ?_ ?_); (next => (first | omega | (intros; first | omega | (refine ⟨by omega, ?_⟩; repeat (first | assumption | constructor)) | assumption))); intro _; try simp )
                | fail)
              refine CondK.intro (fun hu1 => ?_) (fun hu1 => ?_)
              · exfalso
                simp at hu1
                omega
              · clear hu1
                by_cases hu0 : ul.length = 0
                · have hun : ul = [] := List.eq_nil_of_length_eq_zero hu0
                  subst hun
                  try simp 
                  repeat (refine PreK.intro (by first | omega | (intros; first | omega | (refine ⟨by omega, ?_⟩; simp_all; done) | (simp_all; done) | (simp_all; omega))) fun _ => ?_; (try simp ))
                  refine CondK.tt ?_
                  try simp 
                  try simp 
                  repeat' (first
                    | ((with_reducible refine PreK.intro ?_ ?_); (next => (first | omega | (intros; first | omega | (refine ⟨by omega, ?_⟩; repeat (first | assumption | constructor)) | assumption))); intro _; try simp )
                    | fail)
                · have hu2 : ¬ ul = [] := fun e => hu0 (by rw [e]; rfl)
                  have hup : 0 < ul.length := by omega
                  have hul1 : ul.length - 1 < ul.length := by omega
                  have hun1 : ((ul.length : Int) - 1).toNat = ul.length - 1 := by omega
                  have hun2 : (0 : Int) ≤ (ul.length : Int) - 1 := by omega
                  have hun3 : (ul.length : Int) - 1 < ul.length := by omega
                  obtain ⟨t1, t2⟩ := hTU hup
                  have hW := hTw (el ul (ul.length - 1))
                  have hRr := hTr (el ul (ul.length - 1))
                  rw [t2] at hRr
                  generalize WithoutR s (el ul (ul.length - 1)) = Wo at t1 hW hRr
                  obtain ⟨wo, x0⟩ := Wo
                  dsimp only at t1 hW hRr
                  subst t1
                  have hsl2 := sameLists_c L L (by simp only [big]; omega) (fun x hx => by have := hRs x hx; simp only [big]; omega)
                  try simp [hu2]
                  repeat (refine PreK.intro (by first | omega | (intros; first | omega | (refine ⟨by omega, ?_⟩; simp_all; done) | (simp_all; done) | (simp_all; omega))) fun _ => ?_; (try simp [hu2]))
                  refine CondK.ff ?_
                  try simp 
                  try simp [hup, hul1, hun1, hun2, hun3]
                  repeat (refine PreK.intro (by first | omega | (intros; first | omega | (refine ⟨by omega, ?_⟩; simp_all; done) | (simp_all; done) | (simp_all; omega))) fun _ => ?_; (try simp [hup, hul1, hun1, hun2, hun3]))
                  try simp [hup, hul1, hun1, hun2, hun3]
                  repeat' (first
                    | (refine CallX.pure (hW) (by simp) (by simp) ?_; try simp [hup, hul1, hun1, hun2, hun3])
                    | (refine CallK.intro (hW) (by simp) (by simp) ?_; try simp [hup, hul1, hun1, hun2, hun3])
                    | (refine CallG.intro (fun _ => hW) (by simp) (by simp) ?_; try simp [hup, hul1, hun1, hun2, hun3])
                    | (refine CallX.pure (hRr) (by simp) (by simp) ?_; try simp [hup, hul1, hun1, hun2, hun3])
                    | (refine CallK.intro (hRr) (by simp) (by simp) ?_; try simp [hup, hul1, hun1, hun2, hun3])
                    | (refine CallG.intro (fun _ => hRr) (by simp) (by simp) ?_; try simp [hup, hul1, hun1, hun2, hun3])
                    | (refine CallX.pure (hsl2) (by simp) (by simp) ?_; try simp [hup, hul1, hun1, hun2, hun3])
                    | (refine CallK.intro (hsl2) (by simp) (by simp) ?_; try simp [hup, hul1, hun1, hun2, hun3])
                    | (refine CallG.intro (fun _ => hsl2) (by simp) (by simp) ?_; try simp [hup, hul1, hun1, hun2, hun3])
                    | ((with_reducible refine PreK.intro ?_ ?_); (next => (first | omega | (intros; first | omega | (refine ⟨by omega, ?_⟩; repeat (first | assumption | constructor)) | assumption))); intro _; try simp [hup, hul1, hun1, hun2, hun3])
                    | fail)
        · obtain ⟨g1, _, g3, g4⟩ := wh rfl
          have hWe1 := hWe rfl
          have hWc1 := hWc rfl
          rw [g4] at hWc1
          generalize WeighR wl w = Wg at g1 g3 hWe1
          obtain ⟨sum, x1⟩ := Wg
          dsimp only at g1 g3 hWe1
          subst g1
          have hns : ¬ sum < n := by omega
          refine CondK.tt ?_
          try simp 
          try simp [hns]
          repeat' (first
            | (refine CallX.pure (hWe1) (by simp) (by simp) ?_; try simp [hns])
            | (refine CallK.intro (hWe1) (by simp) (by simp) ?_; try simp [hns])
            | (refine CallG.intro (fun _ => hWe1) (by simp) (by simp) ?_; try simp [hns])
            | (refine CallX.pure (hWc1) (by simp) (by simp) ?_; try simp [hns])
            | (refine CallK.intro (hWc1) (by simp) (by simp) ?_; try simp [hns])
            | (refine CallG.intro (fun _ => hWc1) (by simp) (by simp) ?_; try simp [hns])
            | ((with_reducible refine PreK.intro ?_ ?_); (next => (first | omega | (intros; first | omega | (refine ⟨by omega, ?_⟩; repeat (first | assumption | constructor)) | assumption))); intro _; try simp [hns])
            | fail)
          refine CondK.ff ?_
          try simp 
          try simp 
          repeat (refine PreK.intro (by first | omega | (intros; first | omega | (refine ⟨by omega, ?_⟩; simp_all; done) | (simp_all; done) | (simp_all; omega))) fun _ => ?_; (try simp ))
          obtain ⟨hwl, q, hq, hqe⟩ := pick_in2 pick L.length l0 l300
          have hv := el_mem_of L q hq
          obtain ⟨n0, i0, p0, ie, _, plen, ck, jn, _, v8, xl⟩ := hTV _ hv
          have hNx := hnx _ hv
          have hPl := hTp _ hv
          have hN := Next_c s (el L q) hs (by omega)
          have hI := IsEnd_c s (el L q) hs (by omega)
          have hP := Path_c s w (el L q) hs hw (by omega)
          have hCk := CheckPath_c s w (PathR s w (el L q)).1 hs hw (by omega)
          have hJ := Join_c s w (el L q) hs hw (by omega)
          rw [jn] at hJ
          have hL0 : ¬ L = [] := fun e => by rw [e] at l0; simp at l0
          try simp [hwl, hqe, hq, hL0]
          repeat (refine PreK.intro (by first | omega | (intros; first | omega | (refine ⟨by omega, ?_⟩; simp_all; done) | (simp_all; done) | (simp_all; omega))) fun _ => ?_; (try simp [hwl, hqe, hq, hL0]))
          generalize NextE s (el L q) = Nx at n0 ie hNx hN xl
          generalize IsEndR s (el L q) = Ie at i0 ie hI
          generalize PathR s w (el L q) = Pa at p0 plen ck hPl hP hCk
          obtain ⟨X, y0⟩ := Nx
          obtain ⟨en, y1⟩ := Ie
          obtain ⟨pa, found, y2⟩ := Pa
          dsimp only at *
          subst n0 i0 p0 ie
          generalize hvq : el L q = v at *
          try simp 
          repeat' (first
            | (refine CallX.pure (hN) (by simp) (by simp) ?_; try simp )
            | (refine CallK.intro (hN) (by simp) (by simp) ?_; try simp )
            | (refine CallG.intro (fun _ => hN) (by simp) (by simp) ?_; try simp )
            | (refine CallX.pure (hI) (by simp) (by simp) ?_; try simp )
            | (refine CallK.intro (hI) (by simp) (by simp) ?_; try simp )
            | (refine CallG.intro (fun _ => hI) (by simp) (by simp) ?_; try simp )
            | (refine CallX.pure (hP) (by simp) (by simp) ?_; try simp )
            | (refine CallK.intro (hP) (by simp) (by simp) ?_; try simp )
            | (refine CallG.intro (fun _ => hP) (by simp) (by simp) ?_; try simp )
            | ((with_reducible refine PreK.intro ?_ ?_); (next => (first | omega | (intros; first | omega | (refine ⟨by omega, ?_⟩; repeat (first | assumption | constructor)) | assumption))); intro _; try simp )
            | fail)
          refine CondK.ff ?_
          try simp 
          try simp 
          repeat (refine PreK.intro (by first | omega | (intros; first | omega | (refine ⟨by omega, ?_⟩; simp_all; done) | (simp_all; done) | (simp_all; omega))) fun _ => ?_; (try simp ))
          refine LoopK.by (ι := Nat) (fun k => ⟨[(32, iv k), (31, bv found), (30, stepsV pa), (28, wordsV X), (27, ints v), (13, bv true), (12, iv n), (10, wordsV L), (0, rulesV s), (1, ints w)], []⟩) (fun k => X.length - k) (fun k => k ≤ X.length) 0 (Nat.zero_le _) (by simp) ?_
          intro k Q1 hk hq1 he1 hr1
          try simp 
          refine CondK.intro (fun hk1 => ?_) (fun hk1 => ?_)
          · simp at hk1
            have hxm := hNx _ (el_mem_of X k hk1)
            try simp [hk1]
            repeat (refine PreK.intro (by first | omega | (intros; first | omega | (refine ⟨by omega, ?_⟩; simp_all; done) | (simp_all; done) | (simp_all; omega))) fun _ => ?_; (try simp [hk1]))
            refine LoopK.by (ι := Nat × Bool) (fun x => ⟨[(34, iv x.1), (33, bv x.2), (32, iv k), (31, bv found), (30, stepsV pa), (28, wordsV X), (27, ints v), (13, bv true), (12, iv n), (10, wordsV L), (0, rulesV s), (1, ints w)], []⟩) (fun x => L.length - x.1)
              (fun x => x.1 ≤ L.length ∧ x.2 = (L.take x.1).any fun y => decide (y = el X k)) (0, false) ⟨Nat.zero_le _, rfl⟩ (by simp) ?_
            intro ⟨m, b⟩ Q2 ⟨hm, hb2⟩ hq2 he2 hr2
            dsimp only at hm hb2
            try simp 
            refine CondK.intro (fun hm1 => ?_) (fun hm1 => ?_)
            · simp at hm1
              have htk : (L.take (m + 1)).any (fun y => decide (y = el X k)) = (b || decide (el L m = el X k)) := by rw [take_succ L m hm1, hb2]; simp
              cases b
              · have hsm := same1_c (el L m) (el X k) (by have := hRs _ (el_mem_of L m hm1); simp only [big]; omega)
                try simp [hm1, hk1]
                repeat (refine PreK.intro (by first | omega | (intros; first | omega | (refine ⟨by omega, ?_⟩; simp_all; done) | (simp_all; done) | (simp_all; omega))) fun _ => ?_; (try simp [hm1, hk1]))
                refine CallG.intro (fun _ => by simpa using hsm) (by simp) (by simp) ?_
                try simp 
                repeat (refine PreK.intro (by first | omega | (intros; first | omega | (refine ⟨by omega, ?_⟩; simp_all; done) | (simp_all; done) | (simp_all; omega))) fun _ => ?_; (try simp ))
                refine hq2 (m + 1, decide (el L m = el X k)) _ ⟨by dsimp only; omega, by rw [htk]; simp⟩ (by dsimp only; omega) (by simp)
              · try simp [hm1, hk1]
                repeat (refine PreK.intro (by first | omega | (intros; first | omega | (refine ⟨by omega, ?_⟩; simp_all; done) | (simp_all; done) | (simp_all; omega))) fun _ => ?_; (try simp [hm1, hk1]))
                refine CallG.intro (r := bv true) (fun hh => by cases hh) (by simp) (by simp) ?_
                try simp 
                repeat (refine PreK.intro (by first | omega | (intros; first | omega | (refine ⟨by omega, ?_⟩; simp_all; done) | (simp_all; done) | (simp_all; omega))) fun _ => ?_; (try simp ))
                refine hq2 (m + 1, true) _ ⟨by dsimp only; omega, by rw [htk]; simp⟩ (by dsimp only; omega) (by simp)
            · simp at hm1
              have hbt : b = true := by
                rw [hb2, List.take_of_length_le (by omega), List.any_eq_true]
                exact ⟨_, hxm, by simp⟩
              subst hbt
              try simp 
              apply he2
              try simp 
              repeat (refine PreK.intro (by first | omega | (intros; first | omega | (refine ⟨by omega, ?_⟩; simp_all; done) | (simp_all; done) | (simp_all; omega))) fun _ => ?_; (try simp ))
              refine CondK.ff ?_
              try simp 
              try simp 
              repeat (refine PreK.intro (by first | omega | (intros; first | omega | (refine ⟨by omega, ?_⟩; simp_all; done) | (simp_all; done) | (simp_all; omega))) fun _ => ?_; (try simp ))
              exact hq1 (k + 1) _ (by omega) (by omega) (by simp)
          · simp at hk1
            try simp 
            apply he1
            try simp 
            repeat (refine PreK.intro (by first | omega | (intros; first | omega | (refine ⟨by omega, ?_⟩; simp_all; done) | (simp_all; done) | (simp_all; omega))) fun _ => ?_; (try simp ))
            cases found
            · refine CondK.ff ?_
              try simp 
              try simp 
              repeat (refine PreK.intro (by first | omega | (intros; first | omega | (refine ⟨by omega, ?_⟩; simp_all; done) | (simp_all; done) | (simp_all; omega))) fun _ => ?_; (try simp ))
              try simp 
              repeat' (first
                | (refine CallX.pure (hU) (by simp) (by simp) ?_; try simp )
                | (refine CallK.intro (hU) (by simp) (by simp) ?_; try simp )
                | (refine CallG.intro (fun _ => hU) (by simp) (by simp) ?_; try simp )
                | ((with_reducible refine PreK.intro ?_ ?_); (next => (first | omega | (intros; first | omega | (refine ⟨by omega, ?_⟩; repeat (first | assumption | constructor)) | assumption))); intro _; try simp )
                | fail)
              refine CondK.intro (fun hu1 => ?_) (fun hu1 => ?_)
              · exfalso
                simp at hu1
                omega
              · clear hu1
                by_cases hu0 : ul.length = 0
                · have hun : ul = [] := List.eq_nil_of_length_eq_zero hu0
                  subst hun
                  try simp 
                  repeat (refine PreK.intro (by first | omega | (intros; first | omega | (refine ⟨by omega, ?_⟩; simp_all; done) | (simp_all; done) | (simp_all; omega))) fun _ => ?_; (try simp ))
                  refine CondK.tt ?_
                  try simp 
                  try simp 
                  repeat' (first
                    | ((with_reducible refine PreK.intro ?_ ?_); (next => (first | omega | (intros; first | omega | (refine ⟨by omega, ?_⟩; repeat (first | assumption | constructor)) | assumption))); intro _; try simp )
                    | fail)
                · have hu2 : ¬ ul = [] := fun e => hu0 (by rw [e]; rfl)
                  have hup : 0 < ul.length := by omega
                  have hul1 : ul.length - 1 < ul.length := by omega
                  have hun1 : ((ul.length : Int) - 1).toNat = ul.length - 1 := by omega
                  have hun2 : (0 : Int) ≤ (ul.length : Int) - 1 := by omega
                  have hun3 : (ul.length : Int) - 1 < ul.length := by omega
                  obtain ⟨t1, t2⟩ := hTU hup
                  have hW := hTw (el ul (ul.length - 1))
                  have hRr := hTr (el ul (ul.length - 1))
                  rw [t2] at hRr
                  generalize WithoutR s (el ul (ul.length - 1)) = Wo at t1 hW hRr
                  obtain ⟨wo, x0⟩ := Wo
                  dsimp only at t1 hW hRr
                  subst t1
                  have hsl2 := sameLists_c L L (by simp only [big]; omega) (fun x hx => by have := hRs x hx; simp only [big]; omega)
                  try simp [hu2]
                  repeat (refine PreK.intro (by first | omega | (intros; first | omega | (refine ⟨by omega, ?_⟩; simp_all; done) | (simp_all; done) | (simp_all; omega))) fun _ => ?_; (try simp [hu2]))
                  refine CondK.ff ?_
                  try simp 
                  try simp [hup, hul1, hun1, hun2, hun3]
                  repeat (refine PreK.intro (by first | omega | (intros; first | omega | (refine ⟨by omega, ?_⟩; simp_all; done) | (simp_all; done) | (simp_all; omega))) fun _ => ?_; (try simp [hup, hul1, hun1, hun2, hun3]))
                  try simp [hup, hul1, hun1, hun2, hun3]
                  repeat' (first
                    | (refine CallX.pure (hW) (by simp) (by simp) ?_; try simp [hup, hul1, hun1, hun2, hun3])
                    | (refine CallK.intro (hW) (by simp) (by simp) ?_; try simp [hup, hul1, hun1, hun2, hun3])
                    | (refine CallG.intro (fun _ => hW) (by simp) (by simp) ?_; try simp [hup, hul1, hun1, hun2, hun3])
                    | (refine CallX.pure (hRr) (by simp) (by simp) ?_; try simp [hup, hul1, hun1, hun2, hun3])
                    | (refine CallK.intro (hRr) (by simp) (by simp) ?_; try simp [hup, hul1, hun1, hun2, hun3])
                    | (refine CallG.intro (fun _ => hRr) (by simp) (by simp) ?_; try simp [hup, hul1, hun1, hun2, hun3])
                    | (refine CallX.pure (hsl2) (by simp) (by simp) ?_; try simp [hup, hul1, hun1, hun2, hun3])
                    | (refine CallK.intro (hsl2) (by simp) (by simp) ?_; try simp [hup, hul1, hun1, hun2, hun3])
                    | (refine CallG.intro (fun _ => hsl2) (by simp) (by simp) ?_; try simp [hup, hul1, hun1, hun2, hun3])
                    | ((with_reducible refine PreK.intro ?_ ?_); (next => (first | omega | (intros; first | omega | (refine ⟨by omega, ?_⟩; repeat (first | assumption | constructor)) | assumption))); intro _; try simp [hup, hul1, hun1, hun2, hun3])
                    | fail)
            · have hck := ck rfl
              rw [hck] at hCk
              have hsv := same1_c v v (by simp only [big]; omega)
              have hple := hPl rfl
              refine CondK.tt ?_
              try simp 
              try simp 
              repeat' (first
                | (refine CallX.pure (hCk) (by simp) (by simp) ?_; try simp )
                | (refine CallK.intro (hCk) (by simp) (by simp) ?_; try simp )
                | (refine CallG.intro (fun _ => hCk) (by simp) (by simp) ?_; try simp )
                | (refine CallX.pure (hJ) (by simp) (by simp) ?_; try simp )
                | (refine CallK.intro (hJ) (by simp) (by simp) ?_; try simp )
                | (refine CallG.intro (fun _ => hJ) (by simp) (by simp) ?_; try simp )
                | (refine CallX.pure (hsv) (by simp) (by simp) ?_; try simp )
                | (refine CallK.intro (hsv) (by simp) (by simp) ?_; try simp )
                | (refine CallG.intro (fun _ => hsv) (by simp) (by simp) ?_; try simp )
                | ((with_reducible refine PreK.intro ?_ ?_); (next => (first | omega | (intros; first | omega | (refine ⟨by omega, ?_⟩; repeat (first | assumption | constructor)) | assumption))); intro _; try simp )
                | fail)
              have hpn : ¬ n < (pa.length : Int) := by have := hple rfl; omega
              try simp [hpn]
              repeat (refine PreK.intro (by first | omega | (intros; first | omega | (refine ⟨by omega, ?_⟩; simp_all; done) | (simp_all; done) | (simp_all; omega))) fun _ => ?_; (try simp [hpn]))
              refine CondK.ff ?_
              try simp 
              try simp 
              repeat (refine PreK.intro (by first | omega | (intros; first | omega | (refine ⟨by omega, ?_⟩; simp_all; done) | (simp_all; done) | (simp_all; omega))) fun _ => ?_; (try simp ))
              try simp 
              repeat' (first
                | (refine CallX.pure (hU) (by simp) (by simp) ?_; try simp )
                | (refine CallK.intro (hU) (by simp) (by simp) ?_; try simp )
                | (refine CallG.intro (fun _ => hU) (by simp) (by simp) ?_; try simp )
                | ((with_reducible refine PreK.intro ?_ ?_); (next => (first | omega | (intros; first | omega | (refine ⟨by omega, ?_⟩; repeat (first | assumption | constructor)) | assumption))); intro _; try simp )
                | fail)
              refine CondK.intro (fun hu1 => ?_) (fun hu1 => ?_)
              · exfalso
                simp at hu1
                omega
              · clear hu1
                by_cases hu0 : ul.length = 0
                · have hun : ul = [] := List.eq_nil_of_length_eq_zero hu0
                  subst hun
                  try simp 
                  repeat (refine PreK.intro (by first | omega | (intros; first | omega | (refine ⟨by omega, ?_⟩; simp_all; done) | (simp_all; done) | (simp_all; omega))) fun _ => ?_; (try simp ))
                  refine CondK.tt ?_
                  try simp 
                  try simp 
                  repeat' (first
                    | ((with_reducible refine PreK.intro ?_ ?_); (next => (first | omega | (intros; first | omega | (refine ⟨by omega, ?_⟩; repeat (first | assumption | constructor)) | assumption))); intro _; try simp )
                    | fail)
                · have hu2 : ¬ ul = [] := fun e => hu0 (by rw [e]; rfl)
                  have hup : 0 < ul.length := by omega
                  have hul1 : ul.length - 1 < ul.length := by omega
                  have hun1 : ((ul.length : Int) - 1).toNat = ul.length - 1 := by omega
                  have hun2 : (0 : Int) ≤ (ul.length : Int) - 1 := by omega
                  have hun3 : (ul.length : Int) - 1 < ul.length := by omega
                  obtain ⟨t1, t2⟩ := hTU hup
                  have hW := hTw (el ul (ul.length - 1))
                  have hRr := hTr (el ul (ul.length - 1))
                  rw [t2] at hRr
                  generalize WithoutR s (el ul (ul.length - 1)) = Wo at t1 hW hRr
                  obtain ⟨wo, x0⟩ := Wo
                  dsimp only at t1 hW hRr
                  subst t1
                  have hsl2 := sameLists_c L L (by simp only [big]; omega) (fun x hx => by have := hRs x hx; simp only [big]; omega)
                  try simp [hu2]
                  repeat (refine PreK.intro (by first | omega | (intros; first | omega | (refine ⟨by omega, ?_⟩; simp_all; done) | (simp_all; done) | (simp_all; omega))) fun _ => ?_; (try simp [hu2]))
                  refine CondK.ff ?_
                  try simp 
                  try simp [hup, hul1, hun1, hun2, hun3]
                  repeat (refine PreK.intro (by first | omega | (intros; first | omega | (refine ⟨by omega, ?_⟩; simp_all; done) | (simp_all; done) | (simp_all; omega))) fun _ => ?_; (try simp [hup, hul1, hun1, hun2, hun3]))
                  try simp [hup, hul1, hun1, hun2, hun3]
                  repeat' (first
                    | (refine CallX.pure (hW) (by simp) (by simp) ?_; try simp [hup, hul1, hun1, hun2, hun3])
                    | (refine CallK.intro (hW) (by simp) (by simp) ?_; try simp [hup, hul1, hun1, hun2, hun3])
                    | (refine CallG.intro (fun _ => hW) (by simp) (by simp) ?_; try simp [hup, hul1, hun1, hun2, hun3])
                    | (refine CallX.pure (hRr) (by simp) (by simp) ?_; try simp [hup, hul1, hun1, hun2, hun3])
                    | (refine CallK.intro (hRr) (by simp) (by simp) ?_; try simp [hup, hul1, hun1, hun2, hun3])
                    | (refine CallG.intro (fun _ => hRr) (by simp) (by simp) ?_; try simp [hup, hul1, hun1, hun2, hun3])
                    | (refine CallX.pure (hsl2) (by simp) (by simp) ?_; try simp [hup, hul1, hun1, hun2, hun3])
                    | (refine CallK.intro (hsl2) (by simp) (by simp) ?_; try simp [hup, hul1, hun1, hun2, hun3])
                    | (refine CallG.intro (fun _ => hsl2) (by simp) (by simp) ?_; try simp [hup, hul1, hun1, hun2, hun3])
                    | ((with_reducible refine PreK.intro ?_ ?_); (next => (first | omega | (intros; first | omega | (refine ⟨by omega, ?_⟩; repeat (first | assumption | constructor)) | assumption))); intro _; try simp [hup, hul1, hun1, hun2, hun3])
                    | fail)
theorem topFeeds_c (s : List Rule) (w : List Int) (pick : Int) (hb : s.length ≤ big) (hwb : w.length ≤ big) : CallP Try.prog 4 [rulesV s, ints w, iv pick] (bv true) := by
  cases hl : longS s
  · by_cases h100 : 100 < w.length
    · exact topFeeds_err s w pick hb (.inr (.inl h100))
    · have hs := longS_small hl
      by_cases hE : (ReachE s w).2 = 0
      · exact topFeeds_ok s w pick hb hl h100 hs hE
      · exact topFeeds_err s w pick hb (.inr (.inr ⟨hs, hE⟩))
  · exact topFeeds_err s w pick hb (.inl hl)
end Go.Proofs.Ytkhddecnllcaiaa
end
