/- Part 6 of the proof: the value layer and the contracts of the functions that the statement reaches; proved without conditions beyond those each theorem states. -/
import Derived.Test.YtnpkaemlidifgaaV5
set_option linter.unusedSimpArgs false
set_option linter.unusedVariables false

section
/- Contracts: claimed readings; the sanity check; what is too long; equal lists. -/
namespace Go.Proofs.Ytnpkaemlidifgaa
open Go.Abs Go
set_option maxRecDepth 20000
set_option maxHeartbeats 2000000
attribute [local irreducible] PreK CondK CallK CallG CallX LoopK
attribute [local simp] avsEq avEq akind teq vkind vEq

def misfit (t : List (List Int)) (ats : List Int) (p : Nat) (rd : List Int) : Bool := (prs t ats p).any fun x => decide (el rd x.1.toNat ≠ x.2)
def CheckR (t : List (List Int)) (par ats : List Int) (p : Int) (rd : List Int) : Int × Int :=
  if fitsErr t par ats [p] ≠ 0 then (0, fitsErr t par ats [p]) else if rd.length ≠ par.length then (0, 1) else if (rd.any fun n => !okR n) = true then (0, 1) else if misfit t ats p.toNat rd = true then (0, 7) else (chgM par rd, 0)
theorem prs_drop {t : List (List Int)} {ats : List Int} {p i : Nat} (ha : i < ats.length) (ht : i < t.length) : (prs t ats p).drop i = (el ats i, el (el t i) p) :: (prs t ats p).drop (i + 1) := by
  unfold prs
  rw [zip_drop ha (by rw [colM_len]; exact ht), el_col ht]
theorem CheckReadings_c (t : List (List Int)) (par ats : List Int) (p : Int) (rd : List Int) (h : Sm t) (hp : par.length ≤ 1000) (ha : ats.length ≤ 1000) (hrd : rd.length ≤ 1000) :
    CallP Try.prog 26 [rdsV t, treeV par ats, iv p, ints rd] (.tup [iv (CheckR t par ats p rd).1, iv (CheckR t par ats p rd).2]) := by
  refine C26 (by simp) ?_
  have hf := fits_c t par ats [p] h hp ha (by simp)
  have hcf := containsFunc_c rd (sbig hrd) 70 [] (fun n => !okR n) notReading2_c (by simp [snapL]) (by simp [AV.refsL]) (by simp [snapOKL])
  generalize hR : CheckR t par ats p rd = R
  unfold CheckR at hR
  simp [A26]
  refine CallX.pure (CallP.weak (by simpa [weakL, weak] using hf)) (by simp) (by simp) ?_
  try simp 
  refine CondK.intro (fun h1 => ?_) (fun h1 => ?_)
  · simp at h1
    rw [if_pos h1] at hR
    subst hR
    try simp 
  · simp at h1
    rw [if_neg (by simpa using h1)] at hR
    obtain ⟨hr, hx, hl, hpl, _⟩ := fits_zero h1
    obtain ⟨n, rfl, hn⟩ := placed_nat hpl (List.mem_singleton.2 rfl)
    by_cases h2 : rd.length = par.length
    · rw [if_neg (by simpa using h2)] at hR
      have h2' : (rd.length : Int) = par.length := by omega
      try simp [h2, h2']
      repeat' (first
        | (refine CallX.pure (hcf) (by simp) (by simp) ?_; try simp [h2, h2'])
        | (refine CallK.intro (hcf) (by simp) (by simp) ?_; try simp [h2, h2'])
        | (refine CallG.intro (fun _ => hcf) (by simp) (by simp) ?_; try simp [h2, h2'])
        | ((with_reducible refine PreK.intro ?_ ?_); (next => (first | omega | (intros; first | omega | (refine ⟨by omega, ?_⟩; repeat (first | assumption | constructor)) | assumption))); intro _; try simp [h2, h2'])
        | fail)
      refine CondK.intro (fun h3 => ?_) (fun h3 => ?_)
      · rw [if_pos h3] at hR
        subst hR
        try simp 
      · rw [if_neg (by simp [h3])] at hR
        rw [Int.toNat_natCast] at hR
        try simp 
        repeat (refine PreK.intro (by first | omega | (intros; first | omega | (refine ⟨by omega, ?_⟩; simp_all; done) | (simp_all; done) | (simp_all; omega))) fun _ => ?_; (try simp ))
        refine LoopK.by (ι := Nat) (fun i => ⟨[(34, iv i), (33, iv ats.length), (32, ints ats), (0, rdsV t), (2, iv n), (3, ints rd), (5, .pt 5 1 0 0)], [(5, some ⟨2, [treeV par ats], 1, true⟩)]⟩) (fun i => ats.length - i)
          (fun i => i ≤ ats.length ∧ (if (((prs t ats n).drop i).any fun x => decide (el rd x.1.toNat ≠ x.2)) = true then (0, 7) else (chgM par rd, 0)) = R) 0 ⟨Nat.zero_le _, hR⟩ (by simp) ?_
        intro i Q' ⟨hi, hc⟩ hq he hr'
        try simp 
        refine CondK.intro (fun h4 => ?_) (fun h4 => ?_)
        · simp at h4
          have hit : i < t.length := by omega
          have hrow := hr.row hit
          have hpl' : n < (el t i).length := by omega
          have hat := hx.atsR _ (el_mem_of ats i h4)
          obtain ⟨m, hm⟩ : ∃ m : Nat, el ats i = (m : Int) := ⟨(el ats i).toNat, by omega⟩
          have hml : m < rd.length := by omega
          rw [prs_drop h4 hit, List.any_cons, hm, Int.toNat_natCast] at hc
          try simp [h4, hit, hpl', hm, hml]
          repeat (refine PreK.intro (by first | omega | (intros; first | omega | (refine ⟨by omega, ?_⟩; simp_all; done) | (simp_all; done) | (simp_all; omega))) fun _ => ?_; (try simp [h4, hit, hpl', hm, hml]))
          refine CondK.intro (fun h5 => ?_) (fun h5 => ?_)
          · simp at h5
            rw [decide_eq_true h5, Bool.true_or, if_pos rfl] at hc
            subst hc
            try simp 
            apply hr'
            try simp 
          · simp at h5
            rw [decide_eq_false (by simpa using h5), Bool.false_or] at hc
            repeat (refine PreK.intro (by first | omega | (intros; first | omega | (refine ⟨by omega, ?_⟩; simp_all; done) | (simp_all; done) | (simp_all; omega))) fun _ => ?_; (try simp ))
            exact hq (i + 1) _ ⟨by omega, hc⟩ (by omega) (by simp)
        · simp at h4
          rw [List.drop_eq_nil_of_le (by simp [prs]; omega)] at hc
          simp only [List.any_nil, Bool.false_eq_true, if_false] at hc
          subst hc
          try simp 
          apply he
          try simp 
          repeat' (first
            | (refine CallX.pure (changes_c par ats rd hx h2) (by simp) (by simp) ?_; try simp )
            | (refine CallK.intro (changes_c par ats rd hx h2) (by simp) (by simp) ?_; try simp )
            | (refine CallG.intro (fun _ => changes_c par ats rd hx h2) (by simp) (by simp) ?_; try simp )
            | ((with_reducible refine PreK.intro ?_ ?_); (next => (first | omega | (intros; first | omega | (refine ⟨by omega, ?_⟩; repeat (first | assumption | constructor)) | assumption))); intro _; try simp )
            | fail)
    · rw [if_pos h2] at hR
      have h2' : ¬ (rd.length : Int) = par.length := by omega
      subst hR
      try simp [h2, h2']
      repeat' (first
        | ((with_reducible refine PreK.intro ?_ ?_); (next => (first | omega | (intros; first | omega | (refine ⟨by omega, ?_⟩; repeat (first | assumption | constructor)) | assumption))); intro _; try simp [h2, h2'])
        | fail)
      refine CallG.intro (r := bv true) (fun hh => by cases hh) (by simp) (by simp) ?_
      try simp 
      refine CondK.tt ?_
      try simp 
theorem rCheckReadings_c (t : List (List Int)) (par ats : List Int) (p : Int) (rd : List Int) (h : Sm t) (hp : par.length ≤ 1000) (ha : ats.length ≤ 1000) (hrd : rd.length ≤ 1000) :
    CallP Try.prog 25 [rdsV t, treeV par ats, iv p, ints rd] (.tup [iv (CheckR t par ats p rd).1, iv (CheckR t par ats p rd).2]) := by
  refine C25 (by simp) ?_
  have ht := rtreed_c t par ats h hp ha
  have hpl := rplaced_c t p h
  generalize hR : CheckR t par ats p rd = R
  unfold CheckR at hR
  simp [A25]
  try simp 
  repeat' (first
    | (refine CallX.pure (ht) (by simp) (by simp) ?_; try simp )
    | (refine CallK.intro (ht) (by simp) (by simp) ?_; try simp )
    | (refine CallG.intro (fun _ => ht) (by simp) (by simp) ?_; try simp )
    | ((with_reducible refine PreK.intro ?_ ?_); (next => (first | omega | (intros; first | omega | (refine ⟨by omega, ?_⟩; repeat (first | assumption | constructor)) | assumption))); intro _; try simp )
    | fail)
  refine CondK.intro (fun h1 => ?_) (fun h1 => ?_)
  · simp at h1
    have e : fitsErr t par ats [p] = treedErr t par ats := if_pos h1
    rw [e, if_pos h1] at hR
    subst hR
    try simp 
  · simp at h1
    have e : fitsErr t par ats [p] = placedErr t [p] := if_neg (by simpa using h1)
    try simp 
    repeat' (first
      | (refine CallX.pure (hpl) (by simp) (by simp) ?_; try simp )
      | (refine CallK.intro (hpl) (by simp) (by simp) ?_; try simp )
      | (refine CallG.intro (fun _ => hpl) (by simp) (by simp) ?_; try simp )
      | ((with_reducible refine PreK.intro ?_ ?_); (next => (first | omega | (intros; first | omega | (refine ⟨by omega, ?_⟩; repeat (first | assumption | constructor)) | assumption))); intro _; try simp )
      | fail)
    refine CondK.intro (fun h2 => ?_) (fun h2 => ?_)
    · simp at h2
      rw [e, if_pos h2] at hR
      subst hR
      try simp 
    · simp at h2
      have h3 : fitsErr t par ats [p] = 0 := by rw [e, h2]
      rw [if_neg (by simpa using h3)] at hR
      obtain ⟨hr, hx, hl, hpl2, _⟩ := fits_zero h3
      obtain ⟨n, rfl, hn⟩ := placed_nat hpl2 (List.mem_singleton.2 rfl)
      try simp 
      refine CondK.intro (fun h4 => ?_) (fun h4 => ?_)
      · have h4' : rd.length ≠ par.length := by simp at h4; omega
        rw [if_pos h4'] at hR
        subst hR
        try simp 
      · have h4' : rd.length = par.length := by simp at h4; omega
        rw [if_neg (by simpa using h4'), Int.toNat_natCast] at hR
        try simp 
        refine LoopK.by (ι := Nat) (fun i => ⟨[(11, iv i), (0, rdsV t), (2, iv n), (3, ints rd), (5, .pt 5 1 0 0)], [(5, some ⟨2, [treeV par ats], 1, true⟩)]⟩) (fun i => rd.length - i)
          (fun i => i ≤ rd.length ∧ (if ((rd.drop i).any fun n => !okR n) = true then (0, 1) else if misfit t ats n rd = true then (0, 7) else (chgM par rd, 0)) = R) 0 ⟨Nat.zero_le _, hR⟩ (by simp) ?_
        intro i Q' ⟨hi, hc⟩ hq he hr'
        try simp 
        refine CondK.intro (fun h5 => ?_) (fun h5 => ?_)
        · simp at h5
          rw [drop_cons rd i h5, List.any_cons] at hc
          try simp [h5]
          repeat' (first
            | (refine CallX.pure (rwithin_c (el rd i) 0 2) (by simp) (by simp) ?_; try simp [h5])
            | (refine CallK.intro (rwithin_c (el rd i) 0 2) (by simp) (by simp) ?_; try simp [h5])
            | (refine CallG.intro (fun _ => rwithin_c (el rd i) 0 2) (by simp) (by simp) ?_; try simp [h5])
            | ((with_reducible refine PreK.intro ?_ ?_); (next => (first | omega | (intros; first | omega | (refine ⟨by omega, ?_⟩; repeat (first | assumption | constructor)) | assumption))); intro _; try simp [h5])
            | fail)
          refine CondK.intro (fun h6 => ?_) (fun h6 => ?_)
          · have e : okR (el rd i) = false := by simp at h6; simp [okR]; omega
            rw [e] at hc
            simp only [Bool.not_false, Bool.true_or, if_true] at hc
            subst hc
            try simp 
            apply hr'
            try simp 
          · have e : okR (el rd i) = true := by simp at h6; simp [okR]; omega
            rw [e] at hc
            simp only [Bool.not_true, Bool.false_or] at hc
            repeat (refine PreK.intro (by first | omega | (intros; first | omega | (refine ⟨by omega, ?_⟩; simp_all; done) | (simp_all; done) | (simp_all; omega))) fun _ => ?_; (try simp ))
            exact hq (i + 1) _ ⟨by omega, hc⟩ (by omega) (by simp)
        · simp at h5
          rw [List.drop_eq_nil_of_le (by omega)] at hc
          simp only [List.any_nil, Bool.false_eq_true, if_false] at hc
          unfold misfit at hc
          try simp 
          apply he
          try simp 
          refine LoopK.by (ι := Nat) (fun i => ⟨[(12, iv i), (0, rdsV t), (2, iv n), (3, ints rd), (5, .pt 5 1 0 0)], [(5, some ⟨2, [treeV par ats], 1, true⟩)]⟩) (fun i => t.length - i)
            (fun i => i ≤ t.length ∧ (if (((prs t ats n).drop i).any fun x => decide (el rd x.1.toNat ≠ x.2)) = true then (0, 7) else (chgM par rd, 0)) = R) 0 ⟨Nat.zero_le _, hc⟩ (by simp) ?_
          clear hq he hr' hc hi h5
          intro i Q' ⟨hi, hc⟩ hq he hr'
          try simp 
          refine CondK.intro (fun h5 => ?_) (fun h5 => ?_)
          · simp at h5
            have hia : i < ats.length := by omega
            have hrow := hr.row h5
            have hpl' : n < (el t i).length := by omega
            have hat := hx.atsR _ (el_mem_of ats i hia)
            obtain ⟨m, hm⟩ : ∃ m : Nat, el ats i = (m : Int) := ⟨(el ats i).toNat, by omega⟩
            have hml : m < rd.length := by omega
            rw [prs_drop hia h5, List.any_cons, hm, Int.toNat_natCast] at hc
            try simp [h5, hia, hpl', hm, hml]
            repeat (refine PreK.intro (by first | omega | (intros; first | omega | (refine ⟨by omega, ?_⟩; simp_all; done) | (simp_all; done) | (simp_all; omega))) fun _ => ?_; (try simp [h5, hia, hpl', hm, hml]))
            refine CondK.intro (fun h6 => ?_) (fun h6 => ?_)
            · simp at h6
              rw [decide_eq_true h6, Bool.true_or, if_pos rfl] at hc
              subst hc
              try simp 
              apply hr'
              try simp 
            · simp at h6
              rw [decide_eq_false (by simpa using h6), Bool.false_or] at hc
              repeat (refine PreK.intro (by first | omega | (intros; first | omega | (refine ⟨by omega, ?_⟩; simp_all; done) | (simp_all; done) | (simp_all; omega))) fun _ => ?_; (try simp ))
              exact hq (i + 1) _ ⟨by omega, hc⟩ (by omega) (by simp)
          · simp at h5
            rw [List.drop_eq_nil_of_le (by simp [prs, colM_len]; omega)] at hc
            simp only [List.any_nil, Bool.false_eq_true, if_false] at hc
            subst hc
            have htop := hx.top
            have hpos := hx.pos
            generalize hG : chgM par rd = G
            unfold chgM at hG
            try simp 
            apply he
            try simp 
            refine LoopK.by (ι := Nat) (fun i => ⟨[(14, iv ((i : Int) + 1)), (13, iv (chg (pf par) (el rd) i)), (3, ints rd), (5, .pt 5 1 0 0)], [(5, some ⟨2, [treeV par ats], 1, true⟩)]⟩) (fun i => par.length - i) (fun i => i + 1 ≤ par.length) 0 (by omega) (by simp [chg]) ?_
            clear hq he hr' hi h5
            intro i Q' hi hq he hr'
            have hle := chg_le (pf par) (el rd) i
            have hnn := chg_nn (pf par) (el rd) i
            try simp 
            refine CondK.intro (fun h5 => ?_) (fun h5 => ?_)
            · simp at h5
              have h6 : i + 1 < par.length := by omega
              have h6' : i + 1 < rd.length := by omega
              have hpf := hx.pfE (show 1 ≤ i + 1 by omega) h6
              have hlt := pf_lt par (i + 1) (by omega)
              have h7 : pf par (i + 1) < rd.length := by omega
              have h8 : el par (i + 1) = ((pf par (i + 1) : Nat) : Int) := hpf.2.symm
              have hq' := hq (i + 1)
              simp only [chg, dd] at hq'
              generalize pf par (i + 1) = m at h7 h8 hq'
              repeat (refine PreK.intro (by first | omega | (intros; first | omega | (refine ⟨by omega, ?_⟩; simp_all; done) | (simp_all; done) | (simp_all; omega))) fun _ => ?_; (try simp [h6, h6', h7, h8]))
              refine CondK.intro (fun h9 => ?_) (fun h9 => ?_)
              · simp at h9
                rw [if_neg h9] at hq'
                repeat (refine PreK.intro (by first | omega | (intros; first | omega | (refine ⟨by omega, ?_⟩; simp_all; done) | (simp_all; done) | (simp_all; omega))) fun _ => ?_; (try simp ))
                exact hq' _ (by omega) (by omega) (by simp)
              · simp at h9
                rw [if_pos h9] at hq'
                repeat (refine PreK.intro (by first | omega | (intros; first | omega | (refine ⟨by omega, ?_⟩; simp_all; done) | (simp_all; done) | (simp_all; omega))) fun _ => ?_; (try simp ))
                exact hq' _ (by omega) (by omega) (by simp)
            · simp at h5
              have : i = par.length - 1 := by omega
              subst this
              try simp 
              apply he
              try simp 
              try unfold chgM
              first | rfl | exact hG | exact hG.symm | (rw [hG])
/-! ### the law's own -/
theorem sane7_c : CallP Try.prog 20 [] (bv true) := by
  refine C20 (by simp) ?_
  have s1 : Sm [[0, 0], [0, 1], [1, 0], [1, 1]] := ⟨by decide, by decide⟩
  have s2 : Sm [[0, 0], [0, 1], [1, 0]] := ⟨by decide, by decide⟩
  have s3 : Sm [[0], [1]] := ⟨by decide, by decide⟩
  have s4 : Sm [[0], [1], [2]] := ⟨by decide, by decide⟩
  have c1 := Conflict_c _ 0 1 s1
  have c2 := Conflict_c _ 0 1 s2
  have c3 := Fewest_c _ [-1, 0, 0] [1, 2] 0 s3 (by decide) (by decide)
  have c4 := Different_c _ 0 s4
  have e1 : ConfR [[0, 0], [0, 1], [1, 0], [1, 1]] 0 1 = (true, 0) := by kernel_rfl
  have e2 : ConfR [[0, 0], [0, 1], [1, 0]] 0 1 = (false, 0) := by kernel_rfl
  have e3 : FewR [[0], [1]] [-1, 0, 0] [1, 2] 0 = (1, true, 0) := by kernel_rfl
  have e4 : DiffR [[0], [1], [2]] 0 = (3, 0) := by kernel_rfl
  rw [e1] at c1
  rw [e2] at c2
  rw [e3] at c3
  rw [e4] at c4
  simp [A20]
  refine CallX.pure (CallP.weak (by simpa [weakL, weak] using c1)) (by simp) (by simp) ?_
  try simp 
  refine CallX.pure (CallP.weak (by simpa [weakL, weak] using c2)) (by simp) (by simp) ?_
  try simp 
  refine CallX.pure (CallP.weak (by simpa [weakL, weak] using c3)) (by simp) (by simp) ?_
  try simp 
  refine CallX.pure (CallP.weak (by simpa [weakL, weak] using c4)) (by simp) (by simp) ?_
  try simp 
def longT (t : List (List Int)) : Bool := (t.any fun r => decide (50 < r.length)) || decide (50 < t.length)
theorem Long7_c (t : List (List Int)) (h : t.length ≤ big) : CallP Try.prog 18 [rdsV t] (bv (longT t)) := by
  refine C18 (by simp) ?_
  generalize hR : longT t = R
  unfold longT at hR
  simp only [big] at h
  simp [A18]
  refine LoopK.by (ι := Nat) (fun i => ⟨[(3, iv i), (0, rdsV t)], []⟩) (fun i => t.length - i) (fun i => i ≤ t.length ∧ (((t.drop i).any fun r => decide (50 < r.length)) || decide (50 < t.length)) = R) 0 ⟨Nat.zero_le _, hR⟩ (by simp) ?_
  intro i Q' ⟨hi, hc⟩ hq he hr
  try simp 
  refine CondK.intro (fun h1 => ?_) (fun h1 => ?_)
  · simp at h1
    rw [drop_cons t i h1, List.any_cons] at hc
    try simp [h1]
    repeat (refine PreK.intro (by first | omega | (intros; first | omega | (refine ⟨by omega, ?_⟩; simp_all; done) | (simp_all; done) | (simp_all; omega))) fun _ => ?_; (try simp [h1]))
    refine CondK.intro (fun h2 => ?_) (fun h2 => ?_)
    · have e : decide (50 < (el t i).length) = true := by simp at h2; simp; omega
      rw [e] at hc
      simp only [Bool.true_or] at hc
      subst hc
      try simp 
      apply hr
      try simp 
    · have e : decide (50 < (el t i).length) = false := by simp at h2; simp; omega
      rw [e] at hc
      simp only [Bool.false_or] at hc
      repeat (refine PreK.intro (by first | omega | (intros; first | omega | (refine ⟨by omega, ?_⟩; simp_all; done) | (simp_all; done) | (simp_all; omega))) fun _ => ?_; (try simp ))
      exact hq (i + 1) _ ⟨by omega, hc⟩ (by omega) (by simp)
  · simp at h1
    rw [List.drop_eq_nil_of_le (by omega)] at hc
    simp only [List.any_nil, Bool.false_or] at hc
    subst hc
    try simp 
    apply he
    try simp 
    try omega
theorem longT_small {t : List (List Int)} (h : longT t = false) : Sm t ∧ t.length ≤ 50 ∧ ∀ r ∈ t, r.length ≤ 50 := by
  unfold longT at h
  simp only [Bool.or_eq_false_iff, List.any_eq_false, decide_eq_true_eq, decide_eq_false_iff_not] at h
  exact ⟨⟨by omega, fun r hr => by have := h.1 r hr; omega⟩, by omega, fun r hr => by have := h.1 r hr; omega⟩
def largeT (par ats : List Int) : Bool := decide (100 < par.length) || decide (100 < ats.length)
theorem Large7_c (par ats : List Int) : CallP Try.prog 19 [treeV par ats] (bv (largeT par ats)) := by
  refine C19 (by simp) ?_
  unfold largeT
  simp [A19]
  repeat (refine PreK.intro (by first | omega | (intros; first | omega | (refine ⟨by omega, ?_⟩; simp_all; done) | (simp_all; done) | (simp_all; omega))) fun _ => ?_; (try simp ))
  congr 1 <;> (rw [Bool.eq_iff_iff]; simp; omega)
theorem largeT_small {par ats : List Int} (h : largeT par ats = false) : par.length ≤ 1000 ∧ ats.length ≤ 1000 := by
  unfold largeT at h
  simp only [Bool.or_eq_false_iff, decide_eq_false_iff_not] at h
  omega
theorem same7_c (a b : List Int) (ha : a.length ≤ big) : CallP Try.prog 36 [ints a, ints b] (bv (decide (a = b))) := by
  refine C36 (by simp) ?_
  simp only [big] at ha
  generalize hR : decide (a = b) = R
  simp [A36]
  refine CondK.intro (fun h => ?_) (fun h => ?_)
  · simp at h
    have : a ≠ b := fun e => h (by rw [e])
    simp [this] at hR
    simp [hR]
  · simp at h
    try simp 
    refine LoopK.by (fun i : Nat => ⟨[(5, iv i), (0, ints a), (1, ints b)], []⟩) (fun i => a.length - i) (fun i => i ≤ a.length ∧ decide (a.drop i = b.drop i) = R) 0 (by simpa using hR) (by simp) ?_
    intro i Q' ⟨hi, hc⟩ hq he hr
    try simp 
    refine CondK.intro (fun h2 => ?_) (fun h2 => ?_)
    · simp at h2
      have h2b : i < b.length := by omega
      rw [drop_cons a i h2, drop_cons b i h2b] at hc
      try simp [h2, h2b]
      repeat (refine PreK.intro (by first | omega | (intros; first | omega | (refine ⟨by omega, ?_⟩; simp_all; done) | (simp_all; done) | (simp_all; omega))) fun _ => ?_; (try simp [h2, h2b]))
      refine CondK.intro (fun h3 => ?_) (fun h3 => ?_)
      · simp at h3
        simp [h3] at hc
        try simp 
        apply hr
        simp [hc]
      · simp at h3
        simp [h3] at hc
        repeat (refine PreK.intro (by first | omega | (intros; first | omega | (refine ⟨by omega, ?_⟩; simp_all; done) | (simp_all; done) | (simp_all; omega))) fun _ => ?_; (try simp ))
        exact hq (i + 1) _ ⟨by omega, by simpa using hc⟩ (by omega) (by simp)
    · simp at h2
      rw [List.drop_eq_nil_of_le (by omega), List.drop_eq_nil_of_le (by omega)] at hc
      simp at hc
      try simp 
      apply he
      simp [hc]
theorem nth_pair (l : List (Nat × Nat)) {k : Nat} (h : k < l.length) : nth (l.map pairV) k = .agg [.raw (.int .i64 ((el l k).1 : Int)), .raw (.int .i64 ((el l k).2 : Int))] := by
  have := nth_map pairV l k h
  simpa using this
theorem samePairs_c (a b : List (Nat × Nat)) (ha : a.length ≤ 1000) : CallP Try.prog 43 [pairsV a, pairsV b] (bv (decide (a = b))) := by
  refine C43 (by simp) ?_
  generalize hR : decide (a = b) = R
  simp [A43]
  refine CondK.intro (fun h => ?_) (fun h => ?_)
  · simp at h
    have : a ≠ b := fun e => h (by rw [e])
    simp [this] at hR
    simp [hR]
  · simp at h
    try simp 
    refine LoopK.by (fun i : Nat => ⟨[(5, iv i), (0, pairsV a), (1, pairsV b)], []⟩) (fun i => a.length - i) (fun i => i ≤ a.length ∧ decide (a.drop i = b.drop i) = R) 0 (by simpa using hR) (by simp) ?_
    intro i Q' ⟨hi, hc⟩ hq he hr
    try simp 
    refine CondK.intro (fun h2 => ?_) (fun h2 => ?_)
    · simp at h2
      have h2b : i < b.length := by omega
      have n1 := nth_pair a h2
      have n2 := nth_pair b h2b
      rw [drop_cons a i h2, drop_cons b i h2b] at hc
      try simp [h2, h2b, n1, n2]
      repeat (refine PreK.intro (by first | omega | (intros; first | omega | (refine ⟨by omega, ?_⟩; simp_all; done) | (simp_all; done) | (simp_all; omega))) fun _ => ?_; (try simp [h2, h2b, n1, n2]))
      refine CondK.intro (fun h3 => ?_) (fun h3 => ?_)
      · have h3' : el a i ≠ el b i := by
          intro e
          simp [e] at h3
        simp [h3'] at hc
        try simp 
        apply hr
        simp [hc]
      · have h3' : el a i = el b i := by
          simp at h3
          exact Prod.ext (by omega) (by omega)
        simp [h3'] at hc
        repeat (refine PreK.intro (by first | omega | (intros; first | omega | (refine ⟨by omega, ?_⟩; simp_all; done) | (simp_all; done) | (simp_all; omega))) fun _ => ?_; (try simp ))
        exact hq (i + 1) _ ⟨by omega, by simpa using hc⟩ (by omega) (by simp)
    · simp at h2
      rw [List.drop_eq_nil_of_le (by omega), List.drop_eq_nil_of_le (by omega)] at hc
      simp at hc
      try simp 
      apply he
      simp [hc]
end Go.Proofs.Ytnpkaemlidifgaa
end

section
/- Contracts: the statements StemmaFewest, StemmaReadings, StemmaChecks, StemmaAparts, StemmaPlaces, StemmaSides, StemmaConflicts, StemmaTotals. -/
namespace Go.Proofs.Ytnpkaemlidifgaa
open Go.Abs Go
set_option maxRecDepth 20000
set_option maxHeartbeats 2000000
attribute [local irreducible] PreK CondK CallK CallG CallX LoopK
attribute [local simp] avsEq avEq akind teq vkind vEq

theorem FewR_ok {t : List (List Int)} {par ats : List Int} {p : Int} (h : (FewR t par ats p).2.1 = true) :
    (FewR t par ats p).2.2 = 0 ∧ ∃ (n : Nat) (o : List Int), p = (n : Int) ∧ n < wid t ∧ Rds t ∧ Treed par ats ∧ ats.length = t.length ∧ fitsErr t par ats [p] = 0 ∧ bestR par (prs t ats n) = some o ∧ (FewR t par ats p).1 = chgM par o := by
  unfold FewR at h ⊢
  by_cases h1 : fitsErr t par ats [p] = 0
  · rw [if_neg (by simpa using h1)] at h ⊢
    obtain ⟨hr, hx, hl, hpl, _⟩ := fits_zero h1
    obtain ⟨n, rfl, hn⟩ := placed_nat hpl (List.mem_singleton.2 rfl)
    rw [Int.toNat_natCast] at h ⊢
    cases hb : bestR par (prs t ats n) with
    | none => rw [hb] at h; cases h
    | some o => exact ⟨rfl, n, o, rfl, hn, hr, hx, hl, h1, hb, rfl⟩
  · rw [if_pos h1] at h; cases h
theorem few_diff {t : List (List Int)} {par ats : List Int} {p : Int} (h : (FewR t par ats p).2.1 = true) : (DiffR t p).2 = 0 ∧ (DiffR t p).1 - 1 ≤ (FewR t par ats p).1 := by
  obtain ⟨_, n, o, rfl, hn, hr, hx, hl, h1, hb, e⟩ := FewR_ok h
  obtain ⟨_, _, _, hpl, _⟩ := fits_zero h1
  obtain ⟨_, _, _, hd⟩ := best_fits hr hx hl hn hb
  rw [e]
  unfold DiffR
  rw [if_neg (by simpa using hpl)]
  rw [Int.toNat_natCast]
  exact ⟨rfl, by dsimp only; omega⟩
theorem lawStemmaFewest_c (t : List (List Int)) (par ats : List Int) (p : Int) (hb : t.length ≤ big) : CallP Try.prog 3 [rdsV t, treeV par ats, iv p] (bv true) := by
  refine C3 (by simp) ?_
  have hlg := Long7_c t hb
  have hla := Large7_c par ats
  simp [A3]
  cases hL : longT t with
  | true =>
    rw [hL] at hlg
    try simp 
    repeat' (first
      | (refine CallX.pure (hlg) (by simp) (by simp) ?_; try simp )
      | (refine CallK.intro (hlg) (by simp) (by simp) ?_; try simp )
      | (refine CallG.intro (fun _ => hlg) (by simp) (by simp) ?_; try simp )
      | ((with_reducible refine PreK.intro ?_ ?_); (next => (first | omega | (intros; first | omega | (refine ⟨by omega, ?_⟩; repeat (first | assumption | constructor)) | assumption))); intro _; try simp )
      | fail)
    refine CallG.intro (r := bv true) (fun hh => by cases hh) (by simp) (by simp) ?_
    try simp 
    refine CondK.tt ?_
    try simp 
    try simp 
    repeat' (first
      | (refine CallX.pure (sane7_c) (by simp) (by simp) ?_; try simp )
      | (refine CallK.intro (sane7_c) (by simp) (by simp) ?_; try simp )
      | (refine CallG.intro (fun _ => sane7_c) (by simp) (by simp) ?_; try simp )
      | ((with_reducible refine PreK.intro ?_ ?_); (next => (first | omega | (intros; first | omega | (refine ⟨by omega, ?_⟩; repeat (first | assumption | constructor)) | assumption))); intro _; try simp )
      | fail)
  | false =>
    rw [hL] at hlg
    try simp 
    repeat' (first
      | (refine CallX.pure (hlg) (by simp) (by simp) ?_; try simp )
      | (refine CallK.intro (hlg) (by simp) (by simp) ?_; try simp )
      | (refine CallG.intro (fun _ => hlg) (by simp) (by simp) ?_; try simp )
      | (refine CallX.pure (hla) (by simp) (by simp) ?_; try simp )
      | (refine CallK.intro (hla) (by simp) (by simp) ?_; try simp )
      | (refine CallG.intro (fun _ => hla) (by simp) (by simp) ?_; try simp )
      | ((with_reducible refine PreK.intro ?_ ?_); (next => (first | omega | (intros; first | omega | (refine ⟨by omega, ?_⟩; repeat (first | assumption | constructor)) | assumption))); intro _; try simp )
      | fail)
    cases hG : largeT par ats with
    | true =>
      refine CondK.tt ?_
      try simp 
      try simp 
      repeat' (first
        | (refine CallX.pure (sane7_c) (by simp) (by simp) ?_; try simp )
        | (refine CallK.intro (sane7_c) (by simp) (by simp) ?_; try simp )
        | (refine CallG.intro (fun _ => sane7_c) (by simp) (by simp) ?_; try simp )
        | ((with_reducible refine PreK.intro ?_ ?_); (next => (first | omega | (intros; first | omega | (refine ⟨by omega, ?_⟩; repeat (first | assumption | constructor)) | assumption))); intro _; try simp )
        | fail)
    | false =>
      refine CondK.ff ?_
      try simp 
      obtain ⟨hs, _, _⟩ := longT_small hL
      obtain ⟨hp, ha⟩ := largeT_small hG
      have c1 := Fewest_c t par ats p hs hp ha
      have c2 := rFewest_c t par ats p hs hp ha
      have c3 := Different_c t p hs
      have hfd := few_diff (t := t) (par := par) (ats := ats) (p := p)
      have hbd : -1000 ≤ (DiffR t p).1 ∧ (DiffR t p).1 ≤ 1000 := by
        unfold DiffR
        split
        · simp
        · have := diffN_len (colM t p.toNat)
          rw [colM_len] at this
          have := hs.num
          dsimp only
          omega
      generalize FewR t par ats p = F at c1 c2 hfd
      obtain ⟨F1, F2, F3⟩ := F
      generalize DiffR t p = D at c3 hfd hbd
      obtain ⟨D1, D2⟩ := D
      dsimp only at c1 c2 c3 hfd hbd
      try simp 
      repeat' (first
        | (refine CallX.pure (c1) (by simp) (by simp) ?_; try simp )
        | (refine CallK.intro (c1) (by simp) (by simp) ?_; try simp )
        | (refine CallG.intro (fun _ => c1) (by simp) (by simp) ?_; try simp )
        | (refine CallX.pure (c2) (by simp) (by simp) ?_; try simp )
        | (refine CallK.intro (c2) (by simp) (by simp) ?_; try simp )
        | (refine CallG.intro (fun _ => c2) (by simp) (by simp) ?_; try simp )
        | ((with_reducible refine PreK.intro ?_ ?_); (next => (first | omega | (intros; first | omega | (refine ⟨by omega, ?_⟩; repeat (first | assumption | constructor)) | assumption))); intro _; try simp )
        | fail)
      refine CondK.intro (fun h1 => ?_) (fun h1 => ?_)
      · simp at h1
      · cases F2 with
        | false =>
          try simp 
          repeat' (first
            | (refine CallX.pure (c3) (by simp) (by simp) ?_; try simp )
            | (refine CallK.intro (c3) (by simp) (by simp) ?_; try simp )
            | (refine CallG.intro (fun _ => c3) (by simp) (by simp) ?_; try simp )
            | (refine CallX.pure (sane7_c) (by simp) (by simp) ?_; try simp )
            | (refine CallK.intro (sane7_c) (by simp) (by simp) ?_; try simp )
            | (refine CallG.intro (fun _ => sane7_c) (by simp) (by simp) ?_; try simp )
            | ((with_reducible refine PreK.intro ?_ ?_); (next => (first | omega | (intros; first | omega | (refine ⟨by omega, ?_⟩; repeat (first | assumption | constructor)) | assumption))); intro _; try simp )
            | fail)
        | true =>
          obtain ⟨rfl, hge⟩ := hfd rfl
          try simp [hge]
          repeat' (first
            | (refine CallX.pure (c3) (by simp) (by simp) ?_; try simp [hge])
            | (refine CallK.intro (c3) (by simp) (by simp) ?_; try simp [hge])
            | (refine CallG.intro (fun _ => c3) (by simp) (by simp) ?_; try simp [hge])
            | (refine CallX.pure (sane7_c) (by simp) (by simp) ?_; try simp [hge])
            | (refine CallK.intro (sane7_c) (by simp) (by simp) ?_; try simp [hge])
            | (refine CallG.intro (fun _ => sane7_c) (by simp) (by simp) ?_; try simp [hge])
            | ((with_reducible refine PreK.intro ?_ ?_); (next => (first | omega | (intros; first | omega | (refine ⟨by omega, ?_⟩; repeat (first | assumption | constructor)) | assumption))); intro _; try simp [hge])
            | fail)
          try omega
theorem lawStemmaReadings_c (t : List (List Int)) (par ats : List Int) (p : Int) (hb : t.length ≤ big) : CallP Try.prog 4 [rdsV t, treeV par ats, iv p] (bv true) := by
  refine C4 (by simp) ?_
  have hlg := Long7_c t hb
  have hla := Large7_c par ats
  simp [A4]
  cases hL : longT t with
  | true =>
    rw [hL] at hlg
    try simp 
    repeat' (first
      | (refine CallX.pure (hlg) (by simp) (by simp) ?_; try simp )
      | (refine CallK.intro (hlg) (by simp) (by simp) ?_; try simp )
      | (refine CallG.intro (fun _ => hlg) (by simp) (by simp) ?_; try simp )
      | ((with_reducible refine PreK.intro ?_ ?_); (next => (first | omega | (intros; first | omega | (refine ⟨by omega, ?_⟩; repeat (first | assumption | constructor)) | assumption))); intro _; try simp )
      | fail)
    refine CallG.intro (r := bv true) (fun hh => by cases hh) (by simp) (by simp) ?_
    try simp 
    refine CondK.tt ?_
    try simp 
    try simp 
    repeat' (first
      | (refine CallX.pure (sane7_c) (by simp) (by simp) ?_; try simp )
      | (refine CallK.intro (sane7_c) (by simp) (by simp) ?_; try simp )
      | (refine CallG.intro (fun _ => sane7_c) (by simp) (by simp) ?_; try simp )
      | ((with_reducible refine PreK.intro ?_ ?_); (next => (first | omega | (intros; first | omega | (refine ⟨by omega, ?_⟩; repeat (first | assumption | constructor)) | assumption))); intro _; try simp )
      | fail)
  | false =>
    rw [hL] at hlg
    try simp 
    repeat' (first
      | (refine CallX.pure (hlg) (by simp) (by simp) ?_; try simp )
      | (refine CallK.intro (hlg) (by simp) (by simp) ?_; try simp )
      | (refine CallG.intro (fun _ => hlg) (by simp) (by simp) ?_; try simp )
      | (refine CallX.pure (hla) (by simp) (by simp) ?_; try simp )
      | (refine CallK.intro (hla) (by simp) (by simp) ?_; try simp )
      | (refine CallG.intro (fun _ => hla) (by simp) (by simp) ?_; try simp )
      | ((with_reducible refine PreK.intro ?_ ?_); (next => (first | omega | (intros; first | omega | (refine ⟨by omega, ?_⟩; repeat (first | assumption | constructor)) | assumption))); intro _; try simp )
      | fail)
    cases hG : largeT par ats with
    | true =>
      refine CondK.tt ?_
      try simp 
      try simp 
      repeat' (first
        | (refine CallX.pure (sane7_c) (by simp) (by simp) ?_; try simp )
        | (refine CallK.intro (sane7_c) (by simp) (by simp) ?_; try simp )
        | (refine CallG.intro (fun _ => sane7_c) (by simp) (by simp) ?_; try simp )
        | ((with_reducible refine PreK.intro ?_ ?_); (next => (first | omega | (intros; first | omega | (refine ⟨by omega, ?_⟩; repeat (first | assumption | constructor)) | assumption))); intro _; try simp )
        | fail)
    | false =>
      refine CondK.ff ?_
      try simp 
      obtain ⟨hs, _, _⟩ := longT_small hL
      obtain ⟨hp, ha⟩ := largeT_small hG
      have c1 := Readings_c t par ats p hs hp ha
      have c2 := rFewest_c t par ats p hs hp ha
      have hRF : (ReadR t par ats p).2.1 = (FewR t par ats p).2.1 ∧ (ReadR t par ats p).2.2 = (FewR t par ats p).2.2 ∧ ((FewR t par ats p).2.1 = false → (ReadR t par ats p).1 = []) ∧
          ((FewR t par ats p).2.1 = true → (ReadR t par ats p).1.length ≤ 1000 ∧ CheckR t par ats p (ReadR t par ats p).1 = ((FewR t par ats p).1, 0)) := by
        unfold ReadR FewR
        by_cases h1 : fitsErr t par ats [p] = 0
        · rw [if_neg (by simpa using h1), if_neg (by simpa using h1)]
          obtain ⟨hr, hx, hl, hpl, _⟩ := fits_zero h1
          obtain ⟨n, rfl, hn⟩ := placed_nat hpl (List.mem_singleton.2 rfl)
          rw [Int.toNat_natCast]
          cases hbr : bestR par (prs t ats n) with
          | none => exact ⟨rfl, rfl, fun _ => rfl, fun h => (by simp at h)⟩
          | some o =>
            refine ⟨rfl, rfl, fun h => (by simp at h), fun _ => ?_⟩
            obtain ⟨q1, q2, q3, _⟩ := best_fits hr hx hl hn hbr
            have htop := hx.top
            refine ⟨by dsimp only; omega, ?_⟩
            unfold CheckR
            rw [if_neg (by simpa using h1), if_neg (by simpa using q1), if_neg, if_neg]
            · simp only [misfit, Int.toNat_natCast, Bool.not_eq_true, List.any_eq_false, decide_eq_true_eq, ne_eq, Decidable.not_not]
              exact q3
            · simp only [Bool.not_eq_true, List.any_eq_false, Bool.not_eq_true', Bool.not_eq_false]
              intro x hx2
              obtain ⟨i, hi, rfl⟩ := List.getElem_of_mem hx2
              have h3 := q2 i (by omega)
              have h4 : el o i = o[i] := by simp [el, List.getD_eq_getElem?_getD, hi]
              rw [h4] at h3
              rcases h3 with h3 | h3 | h3 <;> simp [okR, h3]
        · rw [if_pos h1, if_pos h1]
          exact ⟨rfl, rfl, fun _ => rfl, fun h => (by simp at h)⟩
      have c3 := rCheckReadings_c t par ats p (ReadR t par ats p).1 hs hp ha
      generalize ReadR t par ats p = A at c1 c3 hRF
      generalize FewR t par ats p = F at c2 hRF
      obtain ⟨A1, A2, A3⟩ := A
      obtain ⟨F1, F2, F3⟩ := F
      dsimp only at c1 c2 c3 hRF
      obtain ⟨rfl, rfl, hRF1, hRF2⟩ := hRF
      try simp 
      repeat' (first
        | (refine CallX.pure (c1) (by simp) (by simp) ?_; try simp )
        | (refine CallK.intro (c1) (by simp) (by simp) ?_; try simp )
        | (refine CallG.intro (fun _ => c1) (by simp) (by simp) ?_; try simp )
        | (refine CallX.pure (c2) (by simp) (by simp) ?_; try simp )
        | (refine CallK.intro (c2) (by simp) (by simp) ?_; try simp )
        | (refine CallG.intro (fun _ => c2) (by simp) (by simp) ?_; try simp )
        | ((with_reducible refine PreK.intro ?_ ?_); (next => (first | omega | (intros; first | omega | (refine ⟨by omega, ?_⟩; repeat (first | assumption | constructor)) | assumption))); intro _; try simp )
        | fail)
      refine CondK.intro (fun h1 => ?_) (fun h1 => ?_)
      · simp at h1
      · cases A2 with
        | false =>
          obtain rfl := hRF1 rfl
          try simp 
          refine CondK.tt ?_
          try simp 
          try simp 
          repeat' (first
            | (refine CallX.pure (sane7_c) (by simp) (by simp) ?_; try simp )
            | (refine CallK.intro (sane7_c) (by simp) (by simp) ?_; try simp )
            | (refine CallG.intro (fun _ => sane7_c) (by simp) (by simp) ?_; try simp )
            | ((with_reducible refine PreK.intro ?_ ?_); (next => (first | omega | (intros; first | omega | (refine ⟨by omega, ?_⟩; repeat (first | assumption | constructor)) | assumption))); intro _; try simp )
            | fail)
        | true =>
          obtain ⟨hl2, hch⟩ := hRF2 rfl
          have c4 := c3 hl2
          rw [hch] at c4
          try simp 
          refine CondK.ff ?_
          try simp 
          try simp 
          repeat' (first
            | (refine CallX.pure (c4) (by simp) (by simp) ?_; try simp )
            | (refine CallK.intro (c4) (by simp) (by simp) ?_; try simp )
            | (refine CallG.intro (fun _ => c4) (by simp) (by simp) ?_; try simp )
            | (refine CallX.pure (sane7_c) (by simp) (by simp) ?_; try simp )
            | (refine CallK.intro (sane7_c) (by simp) (by simp) ?_; try simp )
            | (refine CallG.intro (fun _ => sane7_c) (by simp) (by simp) ?_; try simp )
            | ((with_reducible refine PreK.intro ?_ ?_); (next => (first | omega | (intros; first | omega | (refine ⟨by omega, ?_⟩; repeat (first | assumption | constructor)) | assumption))); intro _; try simp )
            | fail)
@[simp] def claimV (c : (List Int × List Int) × Int × List Int) : AV := .agg [ints c.1.1, ints c.1.2, iv c.2.1, ints c.2.2]
theorem check_few {t : List (List Int)} {par ats rd : List Int} {p : Int} (h : (CheckR t par ats p rd).2 = 0) : (FewR t par ats p).2.2 = 0 ∧ (FewR t par ats p).2.1 = true ∧ (FewR t par ats p).1 ≤ (CheckR t par ats p rd).1 := by
  unfold CheckR at h ⊢
  by_cases h1 : fitsErr t par ats [p] = 0
  · rw [if_neg (by simpa using h1)] at h ⊢
    by_cases h2 : rd.length = par.length
    · rw [if_neg (by simpa using h2)] at h ⊢
      by_cases h3 : (rd.any fun n => !okR n) = true
      · rw [if_pos h3] at h; cases h
      · rw [if_neg h3] at h ⊢
        by_cases h4 : misfit t ats p.toNat rd = true
        · rw [if_pos h4] at h; cases h
        · rw [if_neg h4]
          obtain ⟨hr, hx, hl, hpl, _⟩ := fits_zero h1
          obtain ⟨n, rfl, hn⟩ := placed_nat hpl (List.mem_singleton.2 rfl)
          rw [Int.toNat_natCast] at h4
          have hok := treeOK_of hr hx hl hn
          have hfit : fits (el rd) (prs t ats n) := by
            intro x hxm
            simp only [misfit, Bool.not_eq_true, List.any_eq_false, decide_eq_true_eq, ne_eq, Decidable.not_not] at h4
            exact h4 x hxm
          have h3' : ∀ i, ok3 (el rd i) := by
            intro i
            by_cases hi : i < rd.length
            · simp only [Bool.not_eq_true, List.any_eq_false, Bool.not_eq_true', Bool.not_eq_false] at h3
              have := h3 _ (el_mem_of rd i hi)
              simp [okR] at this
              unfold ok3; omega
            · unfold el
              rw [List.getD_eq_getElem?_getD, List.getElem?_eq_none (by omega)]
              exact .inl rfl
          have hfs := few_same hok
          have hf2 := (few_is hok).2 (el rd) h3'
          rw [mis_zero hfit] at hf2
          have hle : chg (pf par) (el rd) (par.length - 1) ≤ ((par.length - 1 : Nat) : Int) := chg_le _ _ _
          have htop := hx.top
          unfold FewR
          rw [if_neg (by simpa using h1), Int.toNat_natCast]
          cases hbr : bestR par (prs t ats n) with
          | none =>
            rw [hbr] at hfs
            simp only at hfs
            omega
          | some o =>
            rw [hbr] at hfs
            simp only at hfs
            refine ⟨rfl, rfl, ?_⟩
            dsimp only
            unfold chgM at hfs ⊢
            omega
    · rw [if_pos h2] at h; cases h
  · rw [if_pos h1] at h; exact absurd h h1
theorem lawStemmaChecks_c (t : List (List Int)) (c : (List Int × List Int) × Int × List Int) (hb : t.length ≤ big) : CallP Try.prog 5 [rdsV t, claimV c] (bv true) := by
  refine C5 (by simp) ?_
  obtain ⟨⟨par, ats⟩, p, rd⟩ := c
  have hlg := Long7_c t hb
  have hla := Large7_c par ats
  simp [A5]
  cases hL : longT t with
  | true =>
    rw [hL] at hlg
    try simp 
    repeat' (first
      | (refine CallX.pure (hlg) (by simp) (by simp) ?_; try simp )
      | (refine CallK.intro (hlg) (by simp) (by simp) ?_; try simp )
      | (refine CallG.intro (fun _ => hlg) (by simp) (by simp) ?_; try simp )
      | ((with_reducible refine PreK.intro ?_ ?_); (next => (first | omega | (intros; first | omega | (refine ⟨by omega, ?_⟩; repeat (first | assumption | constructor)) | assumption))); intro _; try simp )
      | fail)
    refine CallG.intro (r := bv true) (fun hh => by cases hh) (by simp) (by simp) ?_
    try simp 
    refine CondK.tt ?_
    try simp 
    try simp 
    repeat' (first
      | (refine CallX.pure (sane7_c) (by simp) (by simp) ?_; try simp )
      | (refine CallK.intro (sane7_c) (by simp) (by simp) ?_; try simp )
      | (refine CallG.intro (fun _ => sane7_c) (by simp) (by simp) ?_; try simp )
      | ((with_reducible refine PreK.intro ?_ ?_); (next => (first | omega | (intros; first | omega | (refine ⟨by omega, ?_⟩; repeat (first | assumption | constructor)) | assumption))); intro _; try simp )
      | fail)
  | false =>
    rw [hL] at hlg
    try simp 
    repeat' (first
      | (refine CallX.pure (hlg) (by simp) (by simp) ?_; try simp )
      | (refine CallK.intro (hlg) (by simp) (by simp) ?_; try simp )
      | (refine CallG.intro (fun _ => hlg) (by simp) (by simp) ?_; try simp )
      | (refine CallX.pure (hla) (by simp) (by simp) ?_; try simp )
      | (refine CallK.intro (hla) (by simp) (by simp) ?_; try simp )
      | (refine CallG.intro (fun _ => hla) (by simp) (by simp) ?_; try simp )
      | ((with_reducible refine PreK.intro ?_ ?_); (next => (first | omega | (intros; first | omega | (refine ⟨by omega, ?_⟩; repeat (first | assumption | constructor)) | assumption))); intro _; try simp )
      | fail)
    cases hG : largeT par ats with
    | true =>
      try simp 
      repeat (refine PreK.intro (by first | omega | (intros; first | omega | (refine ⟨by omega, ?_⟩; simp_all; done) | (simp_all; done) | (simp_all; omega))) fun _ => ?_; (try simp ))
      refine CondK.tt ?_
      try simp 
      try simp 
      repeat' (first
        | (refine CallX.pure (sane7_c) (by simp) (by simp) ?_; try simp )
        | (refine CallK.intro (sane7_c) (by simp) (by simp) ?_; try simp )
        | (refine CallG.intro (fun _ => sane7_c) (by simp) (by simp) ?_; try simp )
        | ((with_reducible refine PreK.intro ?_ ?_); (next => (first | omega | (intros; first | omega | (refine ⟨by omega, ?_⟩; repeat (first | assumption | constructor)) | assumption))); intro _; try simp )
        | fail)
    | false =>
      try simp 
      repeat (refine PreK.intro (by first | omega | (intros; first | omega | (refine ⟨by omega, ?_⟩; simp_all; done) | (simp_all; done) | (simp_all; omega))) fun _ => ?_; (try simp ))
      refine CondK.intro (fun h0 => ?_) (fun h0 => ?_)
      · try simp 
        repeat' (first
          | (refine CallX.pure (sane7_c) (by simp) (by simp) ?_; try simp )
          | (refine CallK.intro (sane7_c) (by simp) (by simp) ?_; try simp )
          | (refine CallG.intro (fun _ => sane7_c) (by simp) (by simp) ?_; try simp )
          | ((with_reducible refine PreK.intro ?_ ?_); (next => (first | omega | (intros; first | omega | (refine ⟨by omega, ?_⟩; repeat (first | assumption | constructor)) | assumption))); intro _; try simp )
          | fail)
      · have hrd : rd.length ≤ 1000 := by simp at h0; omega
        obtain ⟨hs, _, _⟩ := longT_small hL
        obtain ⟨hp, ha⟩ := largeT_small hG
        have c1 := CheckReadings_c t par ats p rd hs hp ha hrd
        have c2 := rCheckReadings_c t par ats p rd hs hp ha hrd
        have c3 := ValidateTree_c par ats hp ha
        have c4 := rValidateTree_c par ats hp ha
        have c5 := Fewest_c t par ats p hs hp ha
        have hcf := check_few (t := t) (par := par) (ats := ats) (rd := rd) (p := p)
        generalize CheckR t par ats p rd = A at c1 c2 hcf
        generalize FewR t par ats p = F at c5 hcf
        obtain ⟨A1, A2⟩ := A
        obtain ⟨F1, F2, F3⟩ := F
        dsimp only at c1 c2 c5 hcf
        try simp 
        repeat' (first
          | (refine CallX.pure (c1) (by simp) (by simp) ?_; try simp )
          | (refine CallK.intro (c1) (by simp) (by simp) ?_; try simp )
          | (refine CallG.intro (fun _ => c1) (by simp) (by simp) ?_; try simp )
          | (refine CallX.pure (c2) (by simp) (by simp) ?_; try simp )
          | (refine CallK.intro (c2) (by simp) (by simp) ?_; try simp )
          | (refine CallG.intro (fun _ => c2) (by simp) (by simp) ?_; try simp )
          | ((with_reducible refine PreK.intro ?_ ?_); (next => (first | omega | (intros; first | omega | (refine ⟨by omega, ?_⟩; repeat (first | assumption | constructor)) | assumption))); intro _; try simp )
          | fail)
        refine CallK.intro (by simpa using c3) (by simp) (by simp) ?_
        try simp 
        refine CallK.intro (by simpa using c4) (by simp) (by simp) ?_
        try simp 
        repeat (refine PreK.intro (by first | omega | (intros; first | omega | (refine ⟨by omega, ?_⟩; simp_all; done) | (simp_all; done) | (simp_all; omega))) fun _ => ?_; (try simp ))
        refine CondK.intro (fun h1 => ?_) (fun h1 => ?_)
        · simp at h1
        · by_cases h2 : A2 = 0
          · obtain ⟨rfl, rfl, hle⟩ := hcf h2
            subst h2
            try simp [hle]
            repeat' (first
              | (refine CallX.pure (c5) (by simp) (by simp) ?_; try simp [hle])
              | (refine CallK.intro (c5) (by simp) (by simp) ?_; try simp [hle])
              | (refine CallG.intro (fun _ => c5) (by simp) (by simp) ?_; try simp [hle])
              | (refine CallX.pure (sane7_c) (by simp) (by simp) ?_; try simp [hle])
              | (refine CallK.intro (sane7_c) (by simp) (by simp) ?_; try simp [hle])
              | (refine CallG.intro (fun _ => sane7_c) (by simp) (by simp) ?_; try simp [hle])
              | ((with_reducible refine PreK.intro ?_ ?_); (next => (first | omega | (intros; first | omega | (refine ⟨by omega, ?_⟩; repeat (first | assumption | constructor)) | assumption))); intro _; try simp [hle])
              | fail)
          · try simp [h2]
            repeat' (first
              | (refine CallX.pure (c5) (by simp) (by simp) ?_; try simp [h2])
              | (refine CallK.intro (c5) (by simp) (by simp) ?_; try simp [h2])
              | (refine CallG.intro (fun _ => c5) (by simp) (by simp) ?_; try simp [h2])
              | (refine CallX.pure (sane7_c) (by simp) (by simp) ?_; try simp [h2])
              | (refine CallK.intro (sane7_c) (by simp) (by simp) ?_; try simp [h2])
              | (refine CallG.intro (fun _ => sane7_c) (by simp) (by simp) ?_; try simp [h2])
              | ((with_reducible refine PreK.intro ?_ ?_); (next => (first | omega | (intros; first | omega | (refine ⟨by omega, ?_⟩; repeat (first | assumption | constructor)) | assumption))); intro _; try simp [h2])
              | fail)
theorem apart_all {t : List (List Int)} {i j k : Int} (h : (ApartR t i j).2 = 0) (hk : 0 ≤ k ∧ k < t.length) : (ApartR t i k).2 = 0 ∧ (ApartR t k j).2 = 0 ∧ (ApartR t i j).1 ≤ (ApartR t i k).1 + (ApartR t k j).1 := by
  unfold ApartR at h ⊢
  by_cases h1 : copyErr t i = 0
  · rw [if_neg (by simpa using h1)] at h ⊢
    by_cases h2 : copyErr t j = 0
    · obtain ⟨h0, n, rfl, hn⟩ := copy_nat h1
      obtain ⟨_, m, rfl, hm⟩ := copy_nat h2
      obtain ⟨q, rfl⟩ : ∃ q : Nat, k = (q : Int) := ⟨k.toNat, by omega⟩
      have h3 : copyErr t q = 0 := by
        unfold copyErr
        rw [if_neg (by simp [h0]), if_pos (by simp; omega)]
      have h1' : ¬ copyErr t n ≠ 0 := by simpa using h1
      have h2' : ¬ copyErr t m ≠ 0 := by simpa using h2
      have h3' : ¬ copyErr t q ≠ 0 := by simpa using h3
      simp only [if_neg h1', if_neg h2', if_neg h3', Int.toNat_natCast]
      have := apart_tri (el t n) (el t m) (el t q) (wid t) 0
      exact ⟨trivial, trivial, by omega⟩
    · rw [if_pos h2] at h; exact absurd h h2
  · rw [if_pos h1] at h; exact absurd h h1
theorem ApartR_bound (t : List (List Int)) (h : Sm t) (i j : Int) : 0 ≤ (ApartR t i j).1 ∧ (ApartR t i j).1 ≤ 1000 := by
  unfold ApartR
  split
  · simp
  · split
    · simp
    · have := apartF_le (el t i.toNat) (el t j.toNat) (wid t) 0
      have := wid_le h
      dsimp only
      omega
theorem lawStemmaAparts_c (t : List (List Int)) (i j : Int) (hb : t.length ≤ big) : CallP Try.prog 6 [rdsV t, iv i, iv j] (bv true) := by
  refine C6 (by simp) ?_
  have hlg := Long7_c t hb
  simp [A6]
  try simp 
  repeat' (first
    | (refine CallX.pure (hlg) (by simp) (by simp) ?_; try simp )
    | (refine CallK.intro (hlg) (by simp) (by simp) ?_; try simp )
    | (refine CallG.intro (fun _ => hlg) (by simp) (by simp) ?_; try simp )
    | ((with_reducible refine PreK.intro ?_ ?_); (next => (first | omega | (intros; first | omega | (refine ⟨by omega, ?_⟩; repeat (first | assumption | constructor)) | assumption))); intro _; try simp )
    | fail)
  cases hL : longT t with
  | true =>
    refine CondK.tt ?_
    try simp 
    try simp 
    repeat' (first
      | (refine CallX.pure (sane7_c) (by simp) (by simp) ?_; try simp )
      | (refine CallK.intro (sane7_c) (by simp) (by simp) ?_; try simp )
      | (refine CallG.intro (fun _ => sane7_c) (by simp) (by simp) ?_; try simp )
      | ((with_reducible refine PreK.intro ?_ ?_); (next => (first | omega | (intros; first | omega | (refine ⟨by omega, ?_⟩; repeat (first | assumption | constructor)) | assumption))); intro _; try simp )
      | fail)
  | false =>
    refine CondK.ff ?_
    try simp 
    obtain ⟨hs, h50, _⟩ := longT_small hL
    have c1 := Apart_c t i j hs
    have c2 := rApart_c t i j hs
    have hal := fun k hk h => apart_all (t := t) (i := i) (j := j) (k := k) h hk
    generalize ApartR t i j = A at c1 c2 hal
    obtain ⟨A1, A2⟩ := A
    dsimp only at c1 c2 hal
    try simp 
    repeat' (first
      | (refine CallX.pure (c1) (by simp) (by simp) ?_; try simp )
      | (refine CallK.intro (c1) (by simp) (by simp) ?_; try simp )
      | (refine CallG.intro (fun _ => c1) (by simp) (by simp) ?_; try simp )
      | (refine CallX.pure (c2) (by simp) (by simp) ?_; try simp )
      | (refine CallK.intro (c2) (by simp) (by simp) ?_; try simp )
      | (refine CallG.intro (fun _ => c2) (by simp) (by simp) ?_; try simp )
      | ((with_reducible refine PreK.intro ?_ ?_); (next => (first | omega | (intros; first | omega | (refine ⟨by omega, ?_⟩; repeat (first | assumption | constructor)) | assumption))); intro _; try simp )
      | fail)
    refine CondK.intro (fun h1 => ?_) (fun h1 => ?_)
    · simp at h1
    · try simp 
      refine LoopK.by (ι := Nat) (fun k => ⟨[(11, iv k), (0, rdsV t), (1, iv i), (2, iv j), (7, iv A1), (8, iv A2)], []⟩) (fun k => t.length - k) (fun k => k ≤ t.length) 0 (Nat.zero_le _) (by simp) ?_
      intro k Q' hk hq he hr
      by_cases hA : A2 = 0
      · subst hA
        try simp 
        refine CondK.intro (fun h2 => ?_) (fun h2 => ?_)
        · simp at h2
          obtain ⟨a1, a2, a3⟩ := hal (k : Int) (by omega) rfl
          have d1 := Apart_c t i k hs
          have d2 := Apart_c t k j hs
          have b1 := ApartR_bound t hs i k
          have b2 := ApartR_bound t hs k j
          generalize ApartR t i k = X at d1 a1 a3 b1
          generalize ApartR t k j = Y at d2 a2 a3 b2
          obtain ⟨X1, X2⟩ := X
          obtain ⟨Y1, Y2⟩ := Y
          dsimp only at d1 d2 a1 a2 a3 b1 b2
          subst a1 a2
          try simp 
          repeat' (first
            | (refine CallX.pure (d1) (by simp) (by simp) ?_; try simp )
            | (refine CallK.intro (d1) (by simp) (by simp) ?_; try simp )
            | (refine CallG.intro (fun _ => d1) (by simp) (by simp) ?_; try simp )
            | (refine CallX.pure (d2) (by simp) (by simp) ?_; try simp )
            | (refine CallK.intro (d2) (by simp) (by simp) ?_; try simp )
            | (refine CallG.intro (fun _ => d2) (by simp) (by simp) ?_; try simp )
            | ((with_reducible refine PreK.intro ?_ ?_); (next => (first | omega | (intros; first | omega | (refine ⟨by omega, ?_⟩; repeat (first | assumption | constructor)) | assumption))); intro _; try simp )
            | fail)
          refine CondK.intro (fun h3 => ?_) (fun h3 => ?_)
          · simp at h3; omega
          · repeat (refine PreK.intro (by first | omega | (intros; first | omega | (refine ⟨by omega, ?_⟩; simp_all; done) | (simp_all; done) | (simp_all; omega))) fun _ => ?_; (try simp ))
            exact hq (k + 1) _ (by omega) (by omega) (by simp)
        · simp at h2
          try simp 
          apply he
          try simp 
          repeat' (first
            | (refine CallX.pure (sane7_c) (by simp) (by simp) ?_; try simp )
            | (refine CallK.intro (sane7_c) (by simp) (by simp) ?_; try simp )
            | (refine CallG.intro (fun _ => sane7_c) (by simp) (by simp) ?_; try simp )
            | ((with_reducible refine PreK.intro ?_ ?_); (next => (first | omega | (intros; first | omega | (refine ⟨by omega, ?_⟩; repeat (first | assumption | constructor)) | assumption))); intro _; try simp )
            | fail)
      · try simp 
        refine CondK.intro (fun h2 => ?_) (fun h2 => ?_)
        · simp [hA] at h2
        · try simp 
          apply he
          try simp 
          repeat' (first
            | (refine CallX.pure (sane7_c) (by simp) (by simp) ?_; try simp )
            | (refine CallK.intro (sane7_c) (by simp) (by simp) ?_; try simp )
            | (refine CallG.intro (fun _ => sane7_c) (by simp) (by simp) ?_; try simp )
            | ((with_reducible refine PreK.intro ?_ ?_); (next => (first | omega | (intros; first | omega | (refine ⟨by omega, ?_⟩; repeat (first | assumption | constructor)) | assumption))); intro _; try simp )
            | fail)
theorem lawStemmaPlaces_c (t : List (List Int)) (p : Int) (hb : t.length ≤ big) : CallP Try.prog 7 [rdsV t, iv p] (bv true) := by
  refine C7 (by simp) ?_
  have hlg := Long7_c t hb
  simp [A7]
  try simp 
  repeat' (first
    | (refine CallX.pure (hlg) (by simp) (by simp) ?_; try simp )
    | (refine CallK.intro (hlg) (by simp) (by simp) ?_; try simp )
    | (refine CallG.intro (fun _ => hlg) (by simp) (by simp) ?_; try simp )
    | ((with_reducible refine PreK.intro ?_ ?_); (next => (first | omega | (intros; first | omega | (refine ⟨by omega, ?_⟩; repeat (first | assumption | constructor)) | assumption))); intro _; try simp )
    | fail)
  cases hL : longT t with
  | true =>
    refine CondK.tt ?_
    try simp 
    try simp 
    repeat' (first
      | (refine CallX.pure (sane7_c) (by simp) (by simp) ?_; try simp )
      | (refine CallK.intro (sane7_c) (by simp) (by simp) ?_; try simp )
      | (refine CallG.intro (fun _ => sane7_c) (by simp) (by simp) ?_; try simp )
      | ((with_reducible refine PreK.intro ?_ ?_); (next => (first | omega | (intros; first | omega | (refine ⟨by omega, ?_⟩; repeat (first | assumption | constructor)) | assumption))); intro _; try simp )
      | fail)
  | false =>
    refine CondK.ff ?_
    try simp 
    obtain ⟨hs, h50, _⟩ := longT_small hL
    have hsl : (SideR t p).1.length ≤ 1000 := by
      unfold SideR
      split
      · simp
      · split
        · have := sideF_len (el (colM t p.toNat) 0) (colM t p.toNat) 0
          rw [colM_len] at this
          dsimp only
          omega
        · simp
    try simp 
    repeat' (first
      | (refine CallX.pure (Different_c t p hs) (by simp) (by simp) ?_; try simp )
      | (refine CallK.intro (Different_c t p hs) (by simp) (by simp) ?_; try simp )
      | (refine CallG.intro (fun _ => Different_c t p hs) (by simp) (by simp) ?_; try simp )
      | (refine CallX.pure (rDifferent_c t p hs) (by simp) (by simp) ?_; try simp )
      | (refine CallK.intro (rDifferent_c t p hs) (by simp) (by simp) ?_; try simp )
      | (refine CallG.intro (fun _ => rDifferent_c t p hs) (by simp) (by simp) ?_; try simp )
      | (refine CallX.pure (Side_c t p hs) (by simp) (by simp) ?_; try simp )
      | (refine CallK.intro (Side_c t p hs) (by simp) (by simp) ?_; try simp )
      | (refine CallG.intro (fun _ => Side_c t p hs) (by simp) (by simp) ?_; try simp )
      | (refine CallX.pure (rSide_c t p hs) (by simp) (by simp) ?_; try simp )
      | (refine CallK.intro (rSide_c t p hs) (by simp) (by simp) ?_; try simp )
      | (refine CallG.intro (fun _ => rSide_c t p hs) (by simp) (by simp) ?_; try simp )
      | (refine CallX.pure (Validate_c t hs) (by simp) (by simp) ?_; try simp )
      | (refine CallK.intro (Validate_c t hs) (by simp) (by simp) ?_; try simp )
      | (refine CallG.intro (fun _ => Validate_c t hs) (by simp) (by simp) ?_; try simp )
      | (refine CallX.pure (rValidate_c t hs) (by simp) (by simp) ?_; try simp )
      | (refine CallK.intro (rValidate_c t hs) (by simp) (by simp) ?_; try simp )
      | (refine CallG.intro (fun _ => rValidate_c t hs) (by simp) (by simp) ?_; try simp )
      | (refine CallX.pure (same7_c (SideR t p).1 (SideR t p).1 (sbig hsl)) (by simp) (by simp) ?_; try simp )
      | (refine CallK.intro (same7_c (SideR t p).1 (SideR t p).1 (sbig hsl)) (by simp) (by simp) ?_; try simp )
      | (refine CallG.intro (fun _ => same7_c (SideR t p).1 (SideR t p).1 (sbig hsl)) (by simp) (by simp) ?_; try simp )
      | (refine CallX.pure (sane7_c) (by simp) (by simp) ?_; try simp )
      | (refine CallK.intro (sane7_c) (by simp) (by simp) ?_; try simp )
      | (refine CallG.intro (fun _ => sane7_c) (by simp) (by simp) ?_; try simp )
      | ((with_reducible refine PreK.intro ?_ ?_); (next => (first | omega | (intros; first | omega | (refine ⟨by omega, ?_⟩; repeat (first | assumption | constructor)) | assumption))); intro _; try simp )
      | fail)
theorem lawStemmaConflicts_c (t : List (List Int)) (p q : Int) (hb : t.length ≤ big) : CallP Try.prog 9 [rdsV t, iv p, iv q] (bv true) := by
  refine C9 (by simp) ?_
  have hlg := Long7_c t hb
  simp [A9]
  try simp 
  repeat' (first
    | (refine CallX.pure (hlg) (by simp) (by simp) ?_; try simp )
    | (refine CallK.intro (hlg) (by simp) (by simp) ?_; try simp )
    | (refine CallG.intro (fun _ => hlg) (by simp) (by simp) ?_; try simp )
    | ((with_reducible refine PreK.intro ?_ ?_); (next => (first | omega | (intros; first | omega | (refine ⟨by omega, ?_⟩; repeat (first | assumption | constructor)) | assumption))); intro _; try simp )
    | fail)
  cases hL : longT t with
  | true =>
    refine CondK.tt ?_
    try simp 
    try simp 
    repeat' (first
      | (refine CallX.pure (sane7_c) (by simp) (by simp) ?_; try simp )
      | (refine CallK.intro (sane7_c) (by simp) (by simp) ?_; try simp )
      | (refine CallG.intro (fun _ => sane7_c) (by simp) (by simp) ?_; try simp )
      | ((with_reducible refine PreK.intro ?_ ?_); (next => (first | omega | (intros; first | omega | (refine ⟨by omega, ?_⟩; repeat (first | assumption | constructor)) | assumption))); intro _; try simp )
      | fail)
  | false =>
    refine CondK.ff ?_
    try simp 
    obtain ⟨hs, h50, _⟩ := longT_small hL
    have hsl : (ConfsR t).1.length ≤ 1000 := by
      unfold ConfsR
      split
      · simp
      · rename_i h
        have := confs_len t (vErr_zero (by simpa using h)).w6
        dsimp only
        omega
    try simp 
    repeat' (first
      | (refine CallX.pure (Conflict_c t p q hs) (by simp) (by simp) ?_; try simp )
      | (refine CallK.intro (Conflict_c t p q hs) (by simp) (by simp) ?_; try simp )
      | (refine CallG.intro (fun _ => Conflict_c t p q hs) (by simp) (by simp) ?_; try simp )
      | (refine CallX.pure (rConflict_c t p q hs) (by simp) (by simp) ?_; try simp )
      | (refine CallK.intro (rConflict_c t p q hs) (by simp) (by simp) ?_; try simp )
      | (refine CallG.intro (fun _ => rConflict_c t p q hs) (by simp) (by simp) ?_; try simp )
      | (refine CallX.pure (Conflicts_c t hs) (by simp) (by simp) ?_; try simp )
      | (refine CallK.intro (Conflicts_c t hs) (by simp) (by simp) ?_; try simp )
      | (refine CallG.intro (fun _ => Conflicts_c t hs) (by simp) (by simp) ?_; try simp )
      | (refine CallX.pure (rConflicts_c t hs) (by simp) (by simp) ?_; try simp )
      | (refine CallK.intro (rConflicts_c t hs) (by simp) (by simp) ?_; try simp )
      | (refine CallG.intro (fun _ => rConflicts_c t hs) (by simp) (by simp) ?_; try simp )
      | (refine CallX.pure (CanTree_c t hs) (by simp) (by simp) ?_; try simp )
      | (refine CallK.intro (CanTree_c t hs) (by simp) (by simp) ?_; try simp )
      | (refine CallG.intro (fun _ => CanTree_c t hs) (by simp) (by simp) ?_; try simp )
      | (refine CallX.pure (rCanTree_c t hs) (by simp) (by simp) ?_; try simp )
      | (refine CallK.intro (rCanTree_c t hs) (by simp) (by simp) ?_; try simp )
      | (refine CallG.intro (fun _ => rCanTree_c t hs) (by simp) (by simp) ?_; try simp )
      | (refine CallX.pure (samePairs_c (ConfsR t).1 (ConfsR t).1 hsl) (by simp) (by simp) ?_; try simp )
      | (refine CallK.intro (samePairs_c (ConfsR t).1 (ConfsR t).1 hsl) (by simp) (by simp) ?_; try simp )
      | (refine CallG.intro (fun _ => samePairs_c (ConfsR t).1 (ConfsR t).1 hsl) (by simp) (by simp) ?_; try simp )
      | (refine CallX.pure (sane7_c) (by simp) (by simp) ?_; try simp )
      | (refine CallK.intro (sane7_c) (by simp) (by simp) ?_; try simp )
      | (refine CallG.intro (fun _ => sane7_c) (by simp) (by simp) ?_; try simp )
      | ((with_reducible refine PreK.intro ?_ ?_); (next => (first | omega | (intros; first | omega | (refine ⟨by omega, ?_⟩; repeat (first | assumption | constructor)) | assumption))); intro _; try simp )
      | fail)
end Go.Proofs.Ytnpkaemlidifgaa
end

section
/- Contracts: the statements StemmaSides and StemmaTotals. -/
namespace Go.Proofs.Ytnpkaemlidifgaa
open Go.Abs Go
set_option maxRecDepth 20000
set_option maxHeartbeats 2000000
attribute [local irreducible] PreK CondK CallK CallG CallX LoopK
attribute [local simp] avsEq avEq akind teq vkind vEq

def cntI (x : Int) (b : List Int) : Nat := (b.filter fun y => decide (x = y)).length
theorem bothM_cons (x : Int) (a b : List Int) : bothM (x :: a) b = cntI x b + bothM a b := by simp [bothM, cntI]
theorem cntI_cons (x y : Int) (b : List Int) : cntI x (y :: b) = (if x = y then 1 else 0) + cntI x b := by
  unfold cntI
  rw [List.filter_cons]
  by_cases h : x = y
  · simp [h]; omega
  · simp [h]
theorem cntI_le (x : Int) (b : List Int) : cntI x b ≤ b.length := List.length_filter_le _ _
theorem bothM_le (b : List Int) : ∀ a : List Int, bothM a b ≤ a.length * b.length
  | [] => by simp [bothM]
  | x :: a => by
    have h1 := bothM_le b a
    have h2 := cntI_le x b
    rw [bothM_cons, List.length_cons, Nat.succ_mul]
    omega
theorem sides_law {t : List (List Int)} {p q : Int} (h1 : (SideR t p).2.2 = 0) (h2 : (SideR t q).2.2 = 0) (h3 : (ConfR t p q).2 = 0) :
    ((SideR t p).2.1 = false ∨ (SideR t q).2.1 = false → (ConfR t p q).1 = false) ∧
    ((SideR t p).2.1 = true → (SideR t q).2.1 = true → (ConfR t p q).1 = (decide (0 < bothM (SideR t p).1 (SideR t q).1) && decide (bothM (SideR t p).1 (SideR t q).1 < (SideR t p).1.length) && decide (bothM (SideR t p).1 (SideR t q).1 < (SideR t q).1.length))) := by
  unfold ConfR at h3 ⊢
  by_cases h4 : placedErr t [p, q] = 0
  · rw [if_neg (by simpa using h4)]
    have h5 : placedErr t [p] = 0 := by
      have := placed_two t p q
      rw [h4] at this
      by_cases h6 : placedErr t [p] = 0
      · exact h6
      · rw [if_pos h6] at this; exact this.symm
    have h6 : placedErr t [q] = 0 := by
      have := placed_two t p q
      rw [h4, if_neg (by simpa using h5)] at this
      exact this.symm
    obtain ⟨n, rfl, hn⟩ := placed_nat h5 (List.mem_singleton.2 rfl)
    obtain ⟨m, rfl, hm⟩ := placed_nat h6 (List.mem_singleton.2 rfl)
    have hr := (placed_zero h5).1
    have h0 := hr.pos
    have hSn : SideR t n = if diffN (colM t n) = 2 then (sideF (el (colM t n) 0) 0 (colM t n), true, 0) else ([], false, 0) := by unfold SideR; rw [if_neg (by simpa using h5)]; rfl
    have hSm : SideR t m = if diffN (colM t m) = 2 then (sideF (el (colM t m) 0) 0 (colM t m), true, 0) else ([], false, 0) := by unfold SideR; rw [if_neg (by simpa using h6)]; rfl
    rw [hSn, hSm]
    simp only [Int.toNat_natCast]
    unfold confM
    by_cases e1 : diffN (colM t n) = 2
    · by_cases e2 : diffN (colM t m) = 2
      · rw [if_pos e1, if_pos e2]
        refine ⟨fun h => by simp at h, fun _ _ => ?_⟩
        have := both_iff (a := colM t n) (b := colM t m) (by simp [colM_len]) (by rw [colM_len]; omega) e1 e2
        rw [Bool.eq_iff_iff]
        simp only [e1, e2, decide_true, Bool.true_and, decide_eq_true_eq, Bool.and_eq_true, this]
        exact ⟨fun ⟨a, b, c⟩ => ⟨⟨a, b⟩, c⟩, fun ⟨⟨a, b⟩, c⟩ => ⟨a, b, c⟩⟩
      · rw [if_pos e1, if_neg e2]
        exact ⟨fun _ => by simp [e2], fun _ h => by simp at h⟩
    · rw [if_neg e1]
      exact ⟨fun _ => by simp [e1], fun h => by simp at h⟩
  · rw [if_pos h4] at h3; exact absurd h3 h4
theorem SideR_len {t : List (List Int)} (h : Sm t) (p : Int) : (SideR t p).1.length ≤ 1000 := by
  have := h.num
  unfold SideR
  split
  · simp
  · split
    · have := sideF_len (el (colM t p.toNat) 0) (colM t p.toNat) 0
      rw [colM_len] at this
      dsimp only
      omega
    · simp
theorem lawStemmaSides_c (t : List (List Int)) (p q : Int) (hb : t.length ≤ big) : CallP Try.prog 8 [rdsV t, iv p, iv q] (bv true) := by
  refine C8 (by simp) ?_
  have hlg := Long7_c t hb
  simp [A8]
  try simp 
  repeat' (first
    | (refine CallX.pure (hlg) (by simp) (by simp) ?_; try simp )
    | (refine CallK.intro (hlg) (by simp) (by simp) ?_; try simp )
    | (refine CallG.intro (fun _ => hlg) (by simp) (by simp) ?_; try simp )
    | ((with_reducible refine PreK.intro ?_ ?_); (next => (first | omega | (intros; first | omega | (refine ⟨by omega, ?_⟩; repeat (first | assumption | constructor)) | assumption))); intro _; try simp )
    | fail)
  cases hL : longT t with
  | true =>
    refine CondK.tt ?_
    try simp 
    try simp 
    repeat' (first
      | (refine CallX.pure (sane7_c) (by simp) (by simp) ?_; try simp )
      | (refine CallK.intro (sane7_c) (by simp) (by simp) ?_; try simp )
      | (refine CallG.intro (fun _ => sane7_c) (by simp) (by simp) ?_; try simp )
      | ((with_reducible refine PreK.intro ?_ ?_); (next => (first | omega | (intros; first | omega | (refine ⟨by omega, ?_⟩; repeat (first | assumption | constructor)) | assumption))); intro _; try simp )
      | fail)
  | false =>
    refine CondK.ff ?_
    try simp 
    obtain ⟨hs, h50, _⟩ := longT_small hL
    have c1 := Side_c t p hs
    have c2 := Side_c t q hs
    have c3 := Conflict_c t p q hs
    have l1 := SideR_len hs p
    have l2 := SideR_len hs q
    have hlaw := sides_law (t := t) (p := p) (q := q)
    generalize SideR t p = X at c1 l1 hlaw
    generalize SideR t q = Y at c2 l2 hlaw
    generalize ConfR t p q = Z at c3 hlaw
    obtain ⟨A, x, e⟩ := X
    obtain ⟨B, y, f⟩ := Y
    obtain ⟨is, g⟩ := Z
    dsimp only at c1 c2 c3 l1 l2 hlaw
    try simp 
    repeat' (first
      | (refine CallX.pure (c1) (by simp) (by simp) ?_; try simp )
      | (refine CallK.intro (c1) (by simp) (by simp) ?_; try simp )
      | (refine CallG.intro (fun _ => c1) (by simp) (by simp) ?_; try simp )
      | (refine CallX.pure (c2) (by simp) (by simp) ?_; try simp )
      | (refine CallK.intro (c2) (by simp) (by simp) ?_; try simp )
      | (refine CallG.intro (fun _ => c2) (by simp) (by simp) ?_; try simp )
      | (refine CallX.pure (c3) (by simp) (by simp) ?_; try simp )
      | (refine CallK.intro (c3) (by simp) (by simp) ?_; try simp )
      | (refine CallG.intro (fun _ => c3) (by simp) (by simp) ?_; try simp )
      | ((with_reducible refine PreK.intro ?_ ?_); (next => (first | omega | (intros; first | omega | (refine ⟨by omega, ?_⟩; repeat (first | assumption | constructor)) | assumption))); intro _; try simp )
      | fail)
    refine CondK.intro (fun h1 => ?_) (fun h1 => ?_)
    · try simp 
      repeat' (first
        | (refine CallX.pure (sane7_c) (by simp) (by simp) ?_; try simp )
        | (refine CallK.intro (sane7_c) (by simp) (by simp) ?_; try simp )
        | (refine CallG.intro (fun _ => sane7_c) (by simp) (by simp) ?_; try simp )
        | ((with_reducible refine PreK.intro ?_ ?_); (next => (first | omega | (intros; first | omega | (refine ⟨by omega, ?_⟩; repeat (first | assumption | constructor)) | assumption))); intro _; try simp )
        | fail)
    · simp at h1
      obtain ⟨⟨rfl, rfl⟩, rfl⟩ := h1
      obtain ⟨m1, m2⟩ := hlaw rfl rfl rfl
      cases x with
      | false =>
        have := m1 (.inl rfl)
        subst this
        try simp 
        refine CondK.tt ?_
        try simp 
        try simp 
        repeat' (first
          | (refine CallX.pure (sane7_c) (by simp) (by simp) ?_; try simp )
          | (refine CallK.intro (sane7_c) (by simp) (by simp) ?_; try simp )
          | (refine CallG.intro (fun _ => sane7_c) (by simp) (by simp) ?_; try simp )
          | ((with_reducible refine PreK.intro ?_ ?_); (next => (first | omega | (intros; first | omega | (refine ⟨by omega, ?_⟩; repeat (first | assumption | constructor)) | assumption))); intro _; try simp )
          | fail)
      | true =>
        cases y with
        | false =>
          have := m1 (.inr rfl)
          subst this
          try simp 
          refine CondK.tt ?_
          try simp 
          try simp 
          repeat' (first
            | (refine CallX.pure (sane7_c) (by simp) (by simp) ?_; try simp )
            | (refine CallK.intro (sane7_c) (by simp) (by simp) ?_; try simp )
            | (refine CallG.intro (fun _ => sane7_c) (by simp) (by simp) ?_; try simp )
            | ((with_reducible refine PreK.intro ?_ ?_); (next => (first | omega | (intros; first | omega | (refine ⟨by omega, ?_⟩; repeat (first | assumption | constructor)) | assumption))); intro _; try simp )
            | fail)
        | true =>
          have m3 := m2 rfl rfl
          have hM := bothM_le B A
          have hM2 : A.length * B.length ≤ 1000 * 1000 := Nat.mul_le_mul l1 l2
          generalize hG : bothM A B = G at m3 hM
          try simp 
          refine CondK.ff ?_
          try simp 
          try simp 
          refine LoopK.by (ι := Nat × Nat) (fun s => ⟨[(16, iv s.1), (15, iv s.2), (7, ints A), (10, ints B), (13, bv is)], []⟩) (fun s => A.length - s.1) (fun s => s.1 ≤ A.length ∧ s.2 + bothM (A.drop s.1) B = G) (0, 0) ⟨Nat.zero_le _, by simpa using hG⟩ (by simp) ?_
          intro ⟨i, c⟩ Q' ⟨hi, hc⟩ hq he hr
          dsimp only at hi hc
          try simp 
          refine CondK.intro (fun h2 => ?_) (fun h2 => ?_)
          · simp at h2
            rw [drop_cons A i h2, bothM_cons] at hc
            try simp 
            refine LoopK.by (ι := Nat × Nat) (fun s => ⟨[(17, iv s.1), (16, iv i), (15, iv s.2), (7, ints A), (10, ints B), (13, bv is)], []⟩) (fun s => B.length - s.1) (fun s => s.1 ≤ B.length ∧ s.2 + (cntI (el A i) (B.drop s.1) + bothM (A.drop (i + 1)) B) = G) (0, c) ⟨Nat.zero_le _, by simpa using hc⟩ (by simp) ?_
            intro ⟨k, c2⟩ Q2 ⟨hk, hc2⟩ hq2 he2 hr2
            dsimp only at hk hc2
            try simp 
            refine CondK.intro (fun h3 => ?_) (fun h3 => ?_)
            · simp at h3
              rw [drop_cons B k h3, cntI_cons] at hc2
              try simp [h2, h3]
              repeat (refine PreK.intro (by first | omega | (intros; first | omega | (refine ⟨by omega, ?_⟩; simp_all; done) | (simp_all; done) | (simp_all; omega))) fun _ => ?_; (try simp [h2, h3]))
              refine CondK.intro (fun h4 => ?_) (fun h4 => ?_)
              · simp at h4
                rw [if_pos h4] at hc2
                repeat (refine PreK.intro (by first | omega | (intros; first | omega | (refine ⟨by omega, ?_⟩; simp_all; done) | (simp_all; done) | (simp_all; omega))) fun _ => ?_; (try simp ))
                exact hq2 (k + 1, c2 + 1) _ ⟨by dsimp only; omega, by dsimp only; omega⟩ (by dsimp only; omega) (by simp)
              · simp at h4
                rw [if_neg h4] at hc2
                repeat (refine PreK.intro (by first | omega | (intros; first | omega | (refine ⟨by omega, ?_⟩; simp_all; done) | (simp_all; done) | (simp_all; omega))) fun _ => ?_; (try simp ))
                exact hq2 (k + 1, c2) _ ⟨by dsimp only; omega, by dsimp only; omega⟩ (by dsimp only; omega) (by simp)
            · simp at h3
              rw [List.drop_eq_nil_of_le (by omega)] at hc2
              have e0 : cntI (el A i) [] = 0 := rfl
              rw [e0] at hc2
              try simp 
              apply he2
              repeat (refine PreK.intro (by first | omega | (intros; first | omega | (refine ⟨by omega, ?_⟩; simp_all; done) | (simp_all; done) | (simp_all; omega))) fun _ => ?_; (try simp ))
              exact hq (i + 1, c2) _ ⟨by dsimp only; omega, by dsimp only; omega⟩ (by dsimp only; omega) (by simp)
          · simp at h2
            rw [List.drop_eq_nil_of_le (by omega)] at hc
            have e0 : bothM [] B = 0 := rfl
            rw [e0] at hc
            have : c = G := by omega
            subst this
            try simp 
            apply he
            have f1 : decide (0 < (c : Int)) = decide (0 < c) := by rw [Bool.eq_iff_iff]; simp
            have f2 : decide ((c : Int) < (A.length : Int)) = decide (c < A.length) := by rw [Bool.eq_iff_iff]; simp
            have f3 : decide ((c : Int) < (B.length : Int)) = decide (c < B.length) := by rw [Bool.eq_iff_iff]; simp
            subst m3
            by_cases g1 : 0 < c
            · by_cases g2 : c < A.length
              · try simp [g1, g2]
                repeat' (first
                  | (refine CallX.pure (sane7_c) (by simp) (by simp) ?_; try simp [g1, g2])
                  | (refine CallK.intro (sane7_c) (by simp) (by simp) ?_; try simp [g1, g2])
                  | (refine CallG.intro (fun _ => sane7_c) (by simp) (by simp) ?_; try simp [g1, g2])
                  | ((with_reducible refine PreK.intro ?_ ?_); (next => (first | omega | (intros; first | omega | (refine ⟨by omega, ?_⟩; repeat (first | assumption | constructor)) | assumption))); intro _; try simp [g1, g2])
                  | fail)
              · try simp [g1, g2]
                repeat' (first
                  | (refine CallX.pure (sane7_c) (by simp) (by simp) ?_; try simp [g1, g2])
                  | (refine CallK.intro (sane7_c) (by simp) (by simp) ?_; try simp [g1, g2])
                  | (refine CallG.intro (fun _ => sane7_c) (by simp) (by simp) ?_; try simp [g1, g2])
                  | ((with_reducible refine PreK.intro ?_ ?_); (next => (first | omega | (intros; first | omega | (refine ⟨by omega, ?_⟩; repeat (first | assumption | constructor)) | assumption))); intro _; try simp [g1, g2])
                  | fail)
            · obtain rfl : c = 0 := by omega
              try simp 
              repeat' (first
                | (refine CallX.pure (sane7_c) (by simp) (by simp) ?_; try simp )
                | (refine CallK.intro (sane7_c) (by simp) (by simp) ?_; try simp )
                | (refine CallG.intro (fun _ => sane7_c) (by simp) (by simp) ?_; try simp )
                | ((with_reducible refine PreK.intro ?_ ?_); (next => (first | omega | (intros; first | omega | (refine ⟨by omega, ?_⟩; repeat (first | assumption | constructor)) | assumption))); intro _; try simp )
                | fail)
theorem tot_apartR {t : List (List Int)} {par ats : List Int} {i k : Nat} (h : (TotR t par ats).2.1 = true) (hi : i < t.length) (hk : k < t.length) : (ApartR t i k).2 = 0 ∧ (ApartR t i k).1 ≤ (TotR t par ats).1 := by
  unfold TotR at h ⊢
  by_cases h1 : fitsErr t par ats [] = 0
  · rw [if_neg (by simpa using h1)] at h ⊢
    obtain ⟨hr, hx, hl, _, htr⟩ := fits_zero h1
    cases hM : totM t par ats with
    | none => rw [hM] at h; cases h
    | some s =>
      have h2 := tot_apart hr hx hl hi hk (wid t) 0 s (by omega) hM
      have hv : vErr t = 0 := by
        unfold treedErr at htr
        split at htr
        · rename_i h3; exact absurd htr h3
        · rename_i h3; simpa using h3
      have e : ∀ n : Nat, n < t.length → copyErr t n = 0 := by
        intro n hn
        unfold copyErr
        rw [if_neg (by simp [hv]), if_pos (by simp; omega)]
      unfold ApartR
      rw [if_neg (by simp [e i hi]), if_neg (by simp [e k hk])]
      simp only [Int.toNat_natCast]
      exact ⟨trivial, h2⟩
  · rw [if_pos h1] at h; cases h
theorem lawStemmaTotals_c (t : List (List Int)) (par ats : List Int) (hb : t.length ≤ big) : CallP Try.prog 11 [rdsV t, treeV par ats] (bv true) := by
  refine C11 (by simp) ?_
  have hlg := Long7_c t hb
  have hla := Large7_c par ats
  simp [A11]
  cases hL : longT t with
  | true =>
    rw [hL] at hlg
    try simp 
    repeat' (first
      | (refine CallX.pure (hlg) (by simp) (by simp) ?_; try simp )
      | (refine CallK.intro (hlg) (by simp) (by simp) ?_; try simp )
      | (refine CallG.intro (fun _ => hlg) (by simp) (by simp) ?_; try simp )
      | ((with_reducible refine PreK.intro ?_ ?_); (next => (first | omega | (intros; first | omega | (refine ⟨by omega, ?_⟩; repeat (first | assumption | constructor)) | assumption))); intro _; try simp )
      | fail)
    refine CallG.intro (r := bv true) (fun hh => by cases hh) (by simp) (by simp) ?_
    try simp 
    refine CondK.tt ?_
    try simp 
    try simp 
    repeat' (first
      | (refine CallX.pure (sane7_c) (by simp) (by simp) ?_; try simp )
      | (refine CallK.intro (sane7_c) (by simp) (by simp) ?_; try simp )
      | (refine CallG.intro (fun _ => sane7_c) (by simp) (by simp) ?_; try simp )
      | ((with_reducible refine PreK.intro ?_ ?_); (next => (first | omega | (intros; first | omega | (refine ⟨by omega, ?_⟩; repeat (first | assumption | constructor)) | assumption))); intro _; try simp )
      | fail)
  | false =>
    rw [hL] at hlg
    try simp 
    repeat' (first
      | (refine CallX.pure (hlg) (by simp) (by simp) ?_; try simp )
      | (refine CallK.intro (hlg) (by simp) (by simp) ?_; try simp )
      | (refine CallG.intro (fun _ => hlg) (by simp) (by simp) ?_; try simp )
      | (refine CallX.pure (hla) (by simp) (by simp) ?_; try simp )
      | (refine CallK.intro (hla) (by simp) (by simp) ?_; try simp )
      | (refine CallG.intro (fun _ => hla) (by simp) (by simp) ?_; try simp )
      | ((with_reducible refine PreK.intro ?_ ?_); (next => (first | omega | (intros; first | omega | (refine ⟨by omega, ?_⟩; repeat (first | assumption | constructor)) | assumption))); intro _; try simp )
      | fail)
    cases hG : largeT par ats with
    | true =>
      refine CondK.tt ?_
      try simp 
      try simp 
      repeat' (first
        | (refine CallX.pure (sane7_c) (by simp) (by simp) ?_; try simp )
        | (refine CallK.intro (sane7_c) (by simp) (by simp) ?_; try simp )
        | (refine CallG.intro (fun _ => sane7_c) (by simp) (by simp) ?_; try simp )
        | ((with_reducible refine PreK.intro ?_ ?_); (next => (first | omega | (intros; first | omega | (refine ⟨by omega, ?_⟩; repeat (first | assumption | constructor)) | assumption))); intro _; try simp )
        | fail)
    | false =>
      refine CondK.ff ?_
      try simp 
      obtain ⟨hs, h50, _⟩ := longT_small hL
      obtain ⟨hp, ha⟩ := largeT_small hG
      have c1 := Total_c t par ats hs hp ha
      have c2 := rTotal_c t par ats hs hp ha
      have hta := fun i k hi hk h => tot_apartR (t := t) (par := par) (ats := ats) (i := i) (k := k) h hi hk
      generalize TotR t par ats = X at c1 c2 hta
      obtain ⟨A, ok, e⟩ := X
      dsimp only at c1 c2 hta
      try simp 
      repeat' (first
        | (refine CallX.pure (c1) (by simp) (by simp) ?_; try simp )
        | (refine CallK.intro (c1) (by simp) (by simp) ?_; try simp )
        | (refine CallG.intro (fun _ => c1) (by simp) (by simp) ?_; try simp )
        | (refine CallX.pure (c2) (by simp) (by simp) ?_; try simp )
        | (refine CallK.intro (c2) (by simp) (by simp) ?_; try simp )
        | (refine CallG.intro (fun _ => c2) (by simp) (by simp) ?_; try simp )
        | ((with_reducible refine PreK.intro ?_ ?_); (next => (first | omega | (intros; first | omega | (refine ⟨by omega, ?_⟩; repeat (first | assumption | constructor)) | assumption))); intro _; try simp )
        | fail)
      refine CondK.intro (fun h1 => ?_) (fun h1 => ?_)
      · simp at h1
      · try simp 
        refine LoopK.by (ι := Nat) (fun i => ⟨[(11, iv i), (0, rdsV t), (5, iv A), (6, bv ok)], []⟩) (fun i => t.length - i) (fun i => i ≤ t.length) 0 (Nat.zero_le _) (by simp) ?_
        intro i Q' hi hq he hr
        cases ok with
        | false =>
          try simp 
          refine CondK.ff ?_
          try simp 
          apply he
          try simp 
          repeat' (first
            | (refine CallX.pure (sane7_c) (by simp) (by simp) ?_; try simp )
            | (refine CallK.intro (sane7_c) (by simp) (by simp) ?_; try simp )
            | (refine CallG.intro (fun _ => sane7_c) (by simp) (by simp) ?_; try simp )
            | ((with_reducible refine PreK.intro ?_ ?_); (next => (first | omega | (intros; first | omega | (refine ⟨by omega, ?_⟩; repeat (first | assumption | constructor)) | assumption))); intro _; try simp )
            | fail)
        | true =>
          try simp 
          refine CondK.intro (fun h2 => ?_) (fun h2 => ?_)
          · simp at h2
            try simp 
            refine LoopK.by (ι := Nat) (fun k => ⟨[(12, iv k), (11, iv i), (0, rdsV t), (5, iv A), (6, bv true)], []⟩) (fun k => i - k) (fun k => k ≤ i) 0 (Nat.zero_le _) (by simp) ?_
            intro k Q2 hk hq2 he2 hr2
            try simp 
            refine CondK.intro (fun h3 => ?_) (fun h3 => ?_)
            · simp at h3
              obtain ⟨a1, a2⟩ := hta i k h2 (by omega) rfl
              have d1 := Apart_c t i k hs
              generalize ApartR t i k = Y at d1 a1 a2
              obtain ⟨Y1, Y2⟩ := Y
              dsimp only at d1 a1 a2
              subst a1
              try simp 
              repeat' (first
                | (refine CallX.pure (d1) (by simp) (by simp) ?_; try simp )
                | (refine CallK.intro (d1) (by simp) (by simp) ?_; try simp )
                | (refine CallG.intro (fun _ => d1) (by simp) (by simp) ?_; try simp )
                | ((with_reducible refine PreK.intro ?_ ?_); (next => (first | omega | (intros; first | omega | (refine ⟨by omega, ?_⟩; repeat (first | assumption | constructor)) | assumption))); intro _; try simp )
                | fail)
              refine CondK.intro (fun h4 => ?_) (fun h4 => ?_)
              · simp at h4; omega
              · repeat (refine PreK.intro (by first | omega | (intros; first | omega | (refine ⟨by omega, ?_⟩; simp_all; done) | (simp_all; done) | (simp_all; omega))) fun _ => ?_; (try simp ))
                exact hq2 (k + 1) _ (by omega) (by omega) (by simp)
            · simp at h3
              try simp 
              apply he2
              repeat (refine PreK.intro (by first | omega | (intros; first | omega | (refine ⟨by omega, ?_⟩; simp_all; done) | (simp_all; done) | (simp_all; omega))) fun _ => ?_; (try simp ))
              exact hq (i + 1) _ (by omega) (by omega) (by simp)
          · simp at h2
            try simp 
            apply he
            try simp 
            repeat' (first
              | (refine CallX.pure (sane7_c) (by simp) (by simp) ?_; try simp )
              | (refine CallK.intro (sane7_c) (by simp) (by simp) ?_; try simp )
              | (refine CallG.intro (fun _ => sane7_c) (by simp) (by simp) ?_; try simp )
              | ((with_reducible refine PreK.intro ?_ ?_); (next => (first | omega | (intros; first | omega | (refine ⟨by omega, ?_⟩; repeat (first | assumption | constructor)) | assumption))); intro _; try simp )
              | fail)
end Go.Proofs.Ytnpkaemlidifgaa
end
