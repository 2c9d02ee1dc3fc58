/- Part 8 of the proof: the value layer and the contracts of the functions that the statement reaches; proved without conditions beyond those each theorem states. -/
import Derived.Test.YtphkchjhghdhiaaGreatV5
import Derived.Test.YtphkchjhghdhiaaGreatV6
import Derived.Test.YtphkchjhghdhiaaGreatV7
set_option linter.unusedSimpArgs false
set_option linter.unusedVariables false

section
/- Contracts: orders; the sounds of a table, their rows; which tables are right. -/
namespace Go.Proofs.YtphkchjhghdhiaaGreat
open Go.Abs Go
set_option maxRecDepth 20000
set_option maxHeartbeats 2000000
attribute [local irreducible] PreK CondK CallK CallG CallX LoopK
attribute [local simp] avsEq avEq akind teq vkind vEq

theorem flat_ivs (l : List Int) : ∀ i, i < (l.map iv).length → flat ((l.map iv).getD i .junk) = true := by
  intro i hi
  rw [show (l.map iv).getD i .junk = iv (el l i) from nth_map iv l i (by simpa using hi)]
  rfl
theorem rsounds_c (t : Tab) (h : Sm t) : CallP Tryz.prog 37 [tabV t] (ints t.flatten) := by
  refine C37 (by simp) ?_
  have hn := h.num
  have hfl := flat_le t h.row
  generalize hR : t.flatten = R at hfl
  simp [A37]
  refine LoopK.by (ι := Nat × Nat × List Int) (fun x => ⟨[(4, iv x.1), (3, .sl 3 x.2.1 0 x.2.2.length), (0, tabV t)], [(3, some ⟨1, x.2.2.map iv, x.2.1, false⟩)]⟩) (fun x => t.length - x.1) (fun x => x.1 ≤ t.length ∧ x.2.2 ++ (t.drop x.1).flatten = R) (0, 1, []) ⟨Nat.zero_le _, by simpa using hR⟩ (by simp) ?_
  intro ⟨i, ver, acc⟩ Q' ⟨hi, hc⟩ hq he hr
  dsimp only at hi hc
  try simp 
  refine CondK.intro (fun h1 => ?_) (fun h1 => ?_)
  · simp at h1
    have hel := h.el i
    rw [drop_cons t i h1, List.flatten_cons, ← List.append_assoc] at hc
    have hlen : acc.length + (el t i).length ≤ 5000 := by
      have := congrArg List.length hc
      simp only [List.length_append] at this
      omega
    repeat (refine PreK.intro (by first | omega | (intros; first | omega | (refine ⟨by omega, ?_⟩; simp_all; done) | (simp_all; done) | (simp_all; omega))) fun _ => ?_; (try simp [h1]))
    exact hq (i + 1, ver + 1, acc ++ el t i) _ ⟨by dsimp only; omega, hc⟩ (by dsimp only; omega) (by simp)
  · simp at h1
    rw [List.drop_eq_nil_of_le (by omega)] at hc
    simp only [List.flatten_nil, List.append_nil] at hc
    try simp 
    apply he
    repeat (refine PreK.intro (by first | omega | (intros; first | omega | (refine ⟨by omega, ?_⟩; simp_all; done) | (simp_all; done) | (simp_all; omega))) fun _ => ?_; (try simp ))
    simp [hc]
theorem rValidate_c (t : Tab) (h : Sm t) : CallP Tryz.prog 20 [tabV t] (iv (tabErr t)) := by
  refine C20 (by simp) ?_
  have hn := h.num
  have hsc := rsounds_c t h
  have hfl := flat_le t h.row
  generalize hR : tabErr t = R
  unfold tabErr at hR
  simp [A20]
  have hw := within1_c t.length 1 6
  generalize hb : (decide (1 ≤ (t.length : Int)) && decide ((t.length : Int) ≤ 6)) = b at hR hw
  cases b with
  | false =>
    try simp 
    repeat' (first
      | (refine CallX.pure (hw) (by simp) (by simp) ?_; try simp )
      | (refine CallK.intro (hw) (by simp) (by simp) ?_; try simp )
      | (refine CallG.intro (fun _ => hw) (by simp) (by simp) ?_; try simp )
      | ((with_reducible refine PreK.intro ?_ ?_); (next => (first | omega | (intros; first | omega | (refine ⟨by omega, ?_⟩; repeat (first | assumption | constructor)) | assumption))); intro _; try simp )
      | fail)
    refine CondK.tt ?_
    try simp 
    simpa using hR
  | true =>
    simp only [Bool.and_eq_true, decide_eq_true_eq] at hb
    simp only [Bool.not_true, Bool.false_eq_true, if_false] at hR
    try simp 
    repeat' (first
      | (refine CallX.pure (hw) (by simp) (by simp) ?_; try simp )
      | (refine CallK.intro (hw) (by simp) (by simp) ?_; try simp )
      | (refine CallG.intro (fun _ => hw) (by simp) (by simp) ?_; try simp )
      | ((with_reducible refine PreK.intro ?_ ?_); (next => (first | omega | (intros; first | omega | (refine ⟨by omega, ?_⟩; repeat (first | assumption | constructor)) | assumption))); intro _; try simp )
      | fail)
    refine CondK.ff ?_
    try simp 
    try simp 
    refine LoopK.by (fun i : Nat => ⟨[(3, iv i), (0, tabV t)], []⟩) (fun i => t.length - i) (fun i => i ≤ t.length ∧ (if (t.drop i).any rowBad = true then (1 : Int) else if t.flatten.Nodup then 0 else 5) = R) 0 (by simpa using hR) (by simp) ?_
    intro i Q' ⟨hi, hc⟩ hq he hr
    try simp 
    refine CondK.intro (fun h1 => ?_) (fun h1 => ?_)
    · simp at h1
      have hel := h.el i
      rw [drop_cons t i h1, List.any_cons] at hc
      rw [show rowBad (el t i) = (decide (el t i = []) || (el t i).any fun x => !okS x) from rfl] at hc
      repeat (refine PreK.intro (by first | omega | (intros; first | omega | (refine ⟨by omega, ?_⟩; simp_all; done) | (simp_all; done) | (simp_all; omega))) fun _ => ?_; (try simp [h1]))
      refine CondK.intro (fun h2 => ?_) (fun h2 => ?_)
      · simp at h2
        simp only [h2, decide_true, Bool.true_or, if_true] at hc
        try simp 
        apply hr
        simp [hc]
      · simp at h2
        simp only [h2, decide_false, Bool.false_or] at hc
        try simp 
        refine LoopK.by (fun k : Nat => ⟨[(4, iv k), (3, iv i), (0, tabV t)], []⟩) (fun k => (el t i).length - k) (fun k => k ≤ (el t i).length ∧ (if (((el t i).drop k).any (fun x => !okS x) || (t.drop (i + 1)).any rowBad) = true then (1 : Int) else if t.flatten.Nodup then 0 else 5) = R) 0 ⟨Nat.zero_le _, by simpa using hc⟩ (by simp) ?_
        intro k Q2 ⟨hk, hc2⟩ hq2 he2 hr2
        try simp 
        repeat (refine PreK.intro (by first | omega | (intros; first | omega | (refine ⟨by omega, ?_⟩; simp_all; done) | (simp_all; done) | (simp_all; omega))) fun _ => ?_; (try simp [h1]))
        refine CondK.intro (fun h3 => ?_) (fun h3 => ?_)
        · simp at h3
          have hw2 := within1_c (el (el t i) k) 0 5
          rw [drop_cons (el t i) k h3, List.any_cons] at hc2
          unfold okS at hc2
          generalize (decide (0 ≤ el (el t i) k) && decide (el (el t i) k ≤ 5)) = b2 at hw2 hc2
          try simp [h1, h3]
          repeat' (first
            | (refine CallX.pure (hw2) (by simp) (by simp) ?_; try simp [h1, h3])
            | (refine CallK.intro (hw2) (by simp) (by simp) ?_; try simp [h1, h3])
            | (refine CallG.intro (fun _ => hw2) (by simp) (by simp) ?_; try simp [h1, h3])
            | ((with_reducible refine PreK.intro ?_ ?_); (next => (first | omega | (intros; first | omega | (refine ⟨by omega, ?_⟩; repeat (first | assumption | constructor)) | assumption))); intro _; try simp [h1, h3])
            | fail)
          cases b2 with
          | false =>
            simp only [Bool.not_false, Bool.true_or, if_true] at hc2
            refine CondK.tt ?_
            try simp 
            apply hr2
            try simp 
            apply hr
            simp [hc2]
          | true =>
            simp only [Bool.not_true, Bool.false_or] at hc2
            refine CondK.ff ?_
            try simp 
            repeat (refine PreK.intro (by first | omega | (intros; first | omega | (refine ⟨by omega, ?_⟩; simp_all; done) | (simp_all; done) | (simp_all; omega))) fun _ => ?_; (try simp ))
            exact hq2 (k + 1) _ ⟨by omega, hc2⟩ (by omega) (by simp)
        · simp at h3
          rw [List.drop_eq_nil_of_le (by omega)] at hc2
          simp only [List.any_nil, Bool.false_or] at hc2
          try simp 
          apply he2
          repeat (refine PreK.intro (by first | omega | (intros; first | omega | (refine ⟨by omega, ?_⟩; simp_all; done) | (simp_all; done) | (simp_all; omega))) fun _ => ?_; (try simp ))
          exact hq (i + 1) _ ⟨by omega, hc2⟩ (by omega) (by simp)
    · simp at h1
      rw [List.drop_eq_nil_of_le (by omega)] at hc
      simp only [List.any_nil, Bool.false_eq_true, if_false] at hc
      try simp 
      apply he
      try simp 
      repeat' (first
        | (refine CallX.pure (hsc) (by simp) (by simp) ?_; try simp )
        | (refine CallK.intro (hsc) (by simp) (by simp) ?_; try simp )
        | (refine CallG.intro (fun _ => hsc) (by simp) (by simp) ?_; try simp )
        | ((with_reducible refine PreK.intro ?_ ?_); (next => (first | omega | (intros; first | omega | (refine ⟨by omega, ?_⟩; repeat (first | assumption | constructor)) | assumption))); intro _; try simp )
        | fail)
      clear hq he hr
      have hmf : (List.map (List.map iv) t).flatten = List.map iv t.flatten := by rw [List.map_flatten]
      generalize t.flatten = l at hc hfl hmf
      refine LoopK.by (fun k : Nat => ⟨[(6, iv k), (5, ints l)], []⟩) (fun k => l.length - k) (fun k => k ≤ l.length ∧ (l.take k).Nodup) 0 (by simp) (by simp [hmf]) ?_
      intro k Q' ⟨hk, hnd⟩ hq he hr
      try simp 
      refine CondK.intro (fun h1 => ?_) (fun h1 => ?_)
      · simp at h1
        have hh := has1_c (l.take k) (el l k) (sbig (by rw [List.length_take]; omega))
        have hcn : (l.take k).contains (el l k) = decide (el l k ∈ l.take k) := by rw [Bool.eq_iff_iff, List.contains_iff_mem, decide_eq_true_eq]
        rw [hcn] at hh
        repeat (refine PreK.intro (by first | omega | (intros; first | omega | (refine ⟨by omega, ?_⟩; simp_all; done) | (simp_all; done) | (simp_all; omega))) fun _ => ?_; (try simp [h1]))
        refine CallK.intro (by simpa using hh) (by simp) (by simp) ?_
        try simp [h1]
        refine CondK.intro (fun h2 => ?_) (fun h2 => ?_)
        · simp only [decide_eq_true_eq] at h2
          have : ¬ l.Nodup := fun hn => (take_nodup hnd h1).1 (hn.sublist (List.take_sublist _ _)) h2
          rw [if_neg this] at hc
          try simp 
          apply hr
          simp [hc]
        · simp only [decide_eq_false_iff_not] at h2
          repeat (refine PreK.intro (by first | omega | (intros; first | omega | (refine ⟨by omega, ?_⟩; simp_all; done) | (simp_all; done) | (simp_all; omega))) fun _ => ?_; (try simp ))
          exact hq (k + 1) _ ⟨by omega, (take_nodup hnd h1).2 h2⟩ (by omega) (by simp)
      · simp at h1
        rw [List.take_of_length_le (by omega)] at hnd
        rw [if_pos hnd] at hc
        try simp 
        apply he
        simp [hc]
/-! ### the program's check, its line -/
@[simp] def lineV (t : Tab) : AV := .agg [ints t.flatten, ints (rowsF 0 t)]
theorem Validate_c (t : Tab) (h : Sm t) : CallP Tryz.prog 15 [tabV t] (iv (tabErr t)) := by
  refine C15 (by simp) ?_
  have hn := h.num
  have hfl := flat_le t h.row
  generalize hR : tabErr t = R
  unfold tabErr at hR
  simp [A15]
  have hw := swithin_c t.length 1 6
  generalize hb : (decide (1 ≤ (t.length : Int)) && decide ((t.length : Int) ≤ 6)) = b at hR hw
  cases b with
  | false =>
    try simp 
    repeat' (first
      | (refine CallX.pure (hw) (by simp) (by simp) ?_; try simp )
      | (refine CallK.intro (hw) (by simp) (by simp) ?_; try simp )
      | (refine CallG.intro (fun _ => hw) (by simp) (by simp) ?_; try simp )
      | ((with_reducible refine PreK.intro ?_ ?_); (next => (first | omega | (intros; first | omega | (refine ⟨by omega, ?_⟩; repeat (first | assumption | constructor)) | assumption))); intro _; try simp )
      | fail)
    refine CondK.tt ?_
    try simp 
    simpa using hR
  | true =>
    simp only [Bool.and_eq_true, decide_eq_true_eq] at hb
    simp only [Bool.not_true, Bool.false_eq_true, if_false] at hR
    try simp 
    repeat' (first
      | (refine CallX.pure (hw) (by simp) (by simp) ?_; try simp )
      | (refine CallK.intro (hw) (by simp) (by simp) ?_; try simp )
      | (refine CallG.intro (fun _ => hw) (by simp) (by simp) ?_; try simp )
      | ((with_reducible refine PreK.intro ?_ ?_); (next => (first | omega | (intros; first | omega | (refine ⟨by omega, ?_⟩; repeat (first | assumption | constructor)) | assumption))); intro _; try simp )
      | fail)
    refine CondK.ff ?_
    try simp 
    try simp 
    refine LoopK.by (fun i : Nat => ⟨[(12, iv i), (11, iv t.length), (10, tabV t), (0, tabV t)], []⟩) (fun i => t.length - i) (fun i => i ≤ t.length ∧ (if (t.drop i).any rowBad = true then (1 : Int) else if t.flatten.Nodup then 0 else 5) = R) 0 (by simpa using hR) (by simp) ?_
    intro i Q' ⟨hi, hc⟩ hq he hr
    try simp 
    refine CondK.intro (fun h1 => ?_) (fun h1 => ?_)
    · simp at h1
      have hel := h.el i
      rw [drop_cons t i h1, List.any_cons] at hc
      rw [show rowBad (el t i) = (decide (el t i = []) || (el t i).any fun x => !okS x) from rfl] at hc
      have hcf := containsFunc_c (el t i) (sbig (by omega)) 30 [] (fun n => !okS n) notS_c (by simp [snapL]) (by simp [AV.refsL]) (by simp [snapOKL])
      generalize ((el t i).any fun x => !okS x) = b at hcf hc
      by_cases h3 : el t i = []
      · simp only [h3, decide_true, Bool.true_or, if_true] at hc
        try simp [h1, h3]
        repeat (refine PreK.intro (by first | omega | (intros; first | omega | (refine ⟨by omega, ?_⟩; simp_all; done) | (simp_all; done) | (simp_all; omega))) fun _ => ?_; (try simp [h1, h3]))
        refine CallG.intro (r := bv true) (fun hh => by cases hh) (by simp) (by simp) ?_
        try simp 
        repeat (refine PreK.intro (by first | omega | (intros; first | omega | (refine ⟨by omega, ?_⟩; simp_all; done) | (simp_all; done) | (simp_all; omega))) fun _ => ?_; (try simp ))
        refine CondK.tt ?_
        try simp 
        apply hr
        simp [hc]
      · have h3' : ¬ (el t i).length = 0 := fun e => h3 (List.eq_nil_of_length_eq_zero e)
        simp only [h3, decide_false, Bool.false_or] at hc
        try simp [h1, h3, h3']
        repeat' (first
          | (refine CallX.pure (hcf) (by simp) (by simp) ?_; try simp [h1, h3, h3'])
          | (refine CallK.intro (hcf) (by simp) (by simp) ?_; try simp [h1, h3, h3'])
          | (refine CallG.intro (fun _ => hcf) (by simp) (by simp) ?_; try simp [h1, h3, h3'])
          | ((with_reducible refine PreK.intro ?_ ?_); (next => (first | omega | (intros; first | omega | (refine ⟨by omega, ?_⟩; repeat (first | assumption | constructor)) | assumption))); intro _; try simp [h1, h3, h3'])
          | fail)
        cases b with
        | true =>
          refine CondK.tt ?_
          try simp 
          apply hr
          simpa using hc
        | false =>
          refine CondK.ff ?_
          try simp 
          repeat (refine PreK.intro (by first | omega | (intros; first | omega | (refine ⟨by omega, ?_⟩; simp_all; done) | (simp_all; done) | (simp_all; omega))) fun _ => ?_; (try simp ))
          exact hq (i + 1) _ ⟨by omega, by simpa using hc⟩ (by omega) (by simp)
    · simp at h1
      rw [List.drop_eq_nil_of_le (by omega)] at hc
      simp only [List.any_nil, Bool.false_eq_true, if_false] at hc
      try simp 
      apply he
      have hcc := concat_o t (by omega) (by omega)
      have hmf : (List.map (List.map iv) t).flatten = List.map iv t.flatten := by rw [List.map_flatten]
      generalize t.flatten = l at hc hfl hcc hmf
      have hs1 := sortI_L l
      have hsl := sortI_len l
      have hs2 := Compact_L (sortI l) (by omega)
      have hcl := clone_o (sortI l) (by omega)
      have hnd := nodup_comp l
      have hcn := compI_num (sortI l)
      generalize sortI l = s at hs1 hsl hs2 hcl hnd hcn
      generalize compI s = u at hs2 hnd hcn
      try simp 
      refine CallX.own (by simpa using hcc) (by simp) (by simp) ?_
      try simp 
      refine CallX.lend [] (id := 25) (ver := 1) (n := l.length) (b := ⟨1, l.map iv, 1, false⟩) [] (.val (.tup [])) _ (by simp) (by simp) (by simp) (by simp) (by simp) (by simp) (by simp) (by simpa using hs1) ?_
      try simp 
      have htk : List.take l.length (List.map iv s) = List.map iv s := List.take_of_length_le (by simp [hsl])
      refine CallX.own (by simpa [htk] using hcl) (by simp [hsl]) (.inr (flat_ivs s)) ?_
      try simp [htk, hsl]
      refine CallX.lend [] (id := 29) (ver := 1) (n := s.length) (b := ⟨1, s.map iv, 1, false⟩) [] (.part u.length) _ (by simp [hsl]) (by simp) (by simp) (by simp) (by simp) (by simp) (by simp) (by simpa using hs2) ?_
      try simp 
      repeat (refine PreK.intro (by first | omega | (intros; first | omega | (refine ⟨by omega, ?_⟩; simp_all; done) | (simp_all; done) | (simp_all; omega))) fun _ => ?_; (try simp ))
      refine CondK.intro (fun h2 => ?_) (fun h2 => ?_)
      · simp at h2
        rw [if_neg (by rw [← hnd]; omega)] at hc
        try simp 
        exact hc
      · simp at h2
        rw [if_pos (by rw [← hnd]; omega)] at hc
        try simp 
        exact hc
theorem lineOf_c (t : Tab) (h : TabOK t) : CallP Tryz.prog 40 [tabV t] (lineV t) := by
  refine C40 (by simp) ?_
  have hn := h.num
  have hp := h.pos
  have hl := h.len
  have hrow : ∀ i, i < t.length → 1 ≤ (el t i).length ∧ (el t i).length ≤ 6 := by
    intro i hi
    have h1 := h.row _ (el_mem_of t i hi)
    have h2 : (el t i).length ≠ 0 := fun e => h1 (List.eq_nil_of_length_eq_zero e)
    have h3 : (el t i).Sublist t.flatten := by
      have : t.flatten = (t.take i).flatten ++ (el t i ++ (t.drop (i + 1)).flatten) := by
        conv => lhs; rw [← List.take_append_drop i t, drop_cons t i hi]
        simp
      rw [this]
      exact (List.sublist_append_left _ _).trans (List.sublist_append_right _ _)
    have := h3.length_le
    omega
  generalize hR : rowsF 0 t = R
  have hRl : R.length ≤ 6 := by rw [← hR, rowsF_len]; exact hl
  unfold lineV
  rw [hR]
  generalize hL : t.flatten = L at hl
  simp [A40]
  refine LoopK.by (ι := Nat × Nat × List Int × Nat × List Int) (fun x => match x.1 with
    | 0 => ⟨[(8, iv (0 : Nat)), (7, iv t.length), (6, tabV t), (3, .pt 3 1 0 0), (2, .pt 2 1 0 0)], [(3, some ⟨2, [.agg [.seq 1 [] true, .seq 1 [] true]], 1, true⟩), (2, some ⟨2, [.agg [.seq 1 [] true, .seq 1 [] true]], 1, true⟩)]⟩
    | k + 1 => ⟨[(8, iv (k + 1 : Nat)), (7, iv t.length), (6, tabV t), (3, .pt 3 1 0 0), (2, .pt 2 1 0 0)], [(3, some ⟨2, [.agg [.sl 16 x.2.1 0 x.2.2.1.length, .sl 25 x.2.2.2.1 0 x.2.2.2.2.length]], 1, true⟩), (16, some ⟨1, x.2.2.1.map iv, x.2.1, false⟩), (25, some ⟨1, x.2.2.2.2.map iv, x.2.2.2.1, false⟩), (2, some ⟨2, [.agg [.seq 1 [] true, .seq 1 [] true]], 1, true⟩)]⟩) (fun x => t.length - x.1)
    (fun x => x.1 ≤ t.length ∧ x.2.2.1 ++ (t.drop x.1).flatten = L ∧ x.2.2.2.2 ++ rowsF x.1 (t.drop x.1) = R ∧ (x.1 = 0 → x.2.2.1 = [] ∧ x.2.2.2.2 = [])) (0, 1, [], 1, []) ⟨Nat.zero_le _, by simpa using hL, by simpa using hR, fun _ => ⟨rfl, rfl⟩⟩ (by simp) ?_
  intro ⟨i, v1, a1, v2, a2⟩ Q' ⟨hi, hc1, hc2, hc3⟩ hq he hr
  dsimp only at hi hc1 hc2 hc3
  have hlen1 := congrArg List.length hc1
  have hlen2 := congrArg List.length hc2
  simp only [List.length_append] at hlen1 hlen2
  cases i with
  | zero =>
    obtain ⟨rfl, rfl⟩ := hc3 rfl
    have h1 : 0 < t.length := by omega
    obtain ⟨r1, r2⟩ := hrow 0 h1
    have hrep := (repeat_o false ((0 : Nat) : Int) (el t 0).length (by omega) (by omega)).toP
    rw [drop_cons t 0 h1, List.flatten_cons] at hc1
    rw [drop_cons t 0 h1, rowsF] at hc2
    try simp 
    refine CondK.intro (fun h2 => ?_) (fun h2 => ?_)
    · repeat (refine PreK.intro (by first | omega | (intros; first | omega | (refine ⟨by omega, ?_⟩; simp_all; done) | (simp_all; done) | (simp_all; omega))) fun _ => ?_; (try simp [h1]))
      refine CallK.intro (by simpa using hrep) (by simp) (by simp) ?_
      try simp [h1]
      repeat (refine PreK.intro (by first | omega | (intros; first | omega | (refine ⟨by omega, ?_⟩; simp_all; done) | (simp_all; done) | (simp_all; omega))) fun _ => ?_; (try simp [h1]))
      exact hq (1, 1, el t 0, 1, List.replicate (el t 0).length 0) _ ⟨by dsimp only; omega, by simpa using hc1, by simpa using hc2, fun h => by cases h⟩ (by dsimp only; omega) (by simp)
    · simp at h2
      simp [h2] at h1
  | succ i =>
    try simp 
    refine CondK.intro (fun h2 => ?_) (fun h2 => ?_)
    · simp at h2
      replace h2 : i + 1 < t.length := by omega
      obtain ⟨r1, r2⟩ := hrow (i + 1) h2
      have hrep := (repeat_o false ((i + 1 : Nat) : Int) (el t (i + 1)).length (by omega) (by omega)).toP
      rw [drop_cons t (i + 1) h2, List.flatten_cons, ← List.append_assoc] at hc1
      rw [drop_cons t (i + 1) h2, rowsF, ← List.append_assoc] at hc2
      repeat (refine PreK.intro (by first | omega | (intros; first | omega | (refine ⟨by omega, ?_⟩; simp_all; done) | (simp_all; done) | (simp_all; omega))) fun _ => ?_; (try simp [h2]))
      refine CallK.intro (by simpa using hrep) (by simp) (by simp) ?_
      try simp [h2]
      repeat (refine PreK.intro (by first | omega | (intros; first | omega | (refine ⟨by omega, ?_⟩; simp_all; done) | (simp_all; done) | (simp_all; omega))) fun _ => ?_; (try simp [h2]))
      exact hq (i + 2, v1 + 1, a1 ++ el t (i + 1), v2 + 1, a2 ++ List.replicate (el t (i + 1)).length ((i + 1 : Nat) : Int)) _ ⟨by dsimp only; omega, hc1, hc2, fun h => by cases h⟩ (by dsimp only; omega) (by simp)
    · simp at h2
      rw [List.drop_eq_nil_of_le (by omega)] at hc1 hc2
      simp only [List.flatten_nil, List.append_nil, rowsF] at hc1 hc2
      subst hc1 hc2
      try simp 
      apply he
      repeat (refine PreK.intro (by first | omega | (intros; first | omega | (refine ⟨by omega, ?_⟩; simp_all; done) | (simp_all; done) | (simp_all; omega))) fun _ => ?_; (try simp ))
end Go.Proofs.YtphkchjhghdhiaaGreat
end

section
/- Contracts: two rows made one (sound.Join): slices.Replace of two rows by one. -/
namespace Go.Proofs.YtphkchjhghdhiaaGreat
open Go.Abs Go
set_option maxRecDepth 20000
set_option maxHeartbeats 8000000
attribute [local irreducible] PreK CondK CallK CallG CallX LoopK
/- PURSE -/
attribute [local simp] avsEq avEq akind teq vkind vEq

theorem take_mid (A D : List AV) (X : AV) {k : Nat} (h : A.length = k) : List.take (k + 1) (A ++ X :: D) = A ++ [X] := by
  rw [show A ++ X :: D = (A ++ [X]) ++ D by simp, List.take_append_of_le_length (by simp [h]), List.take_of_length_le (by simp [h])]
theorem drop_mid (A D : List AV) (X : AV) {k : Nat} (h : A.length = k) : List.drop (k + 1) (A ++ X :: D) = D := by
  rw [show A ++ X :: D = (A ++ [X]) ++ D by simp, List.drop_append_of_le_length (by simp [h]), List.drop_eq_nil_of_le (by simp [h]), List.nil_append]
theorem rep_mid {M : List AV} {X Z : AV} {k n : Nat} (hM : M.length = n) (h : k + 2 < n) :
    List.take (n - 1) (List.take (k + 1) (List.take k M ++ ([X] ++ List.drop (k + 1) M)) ++ (List.take (n - 1 - (k + 1)) (List.take (n - (k + 2)) (List.drop (k + 2) (List.take k M ++ ([X] ++ List.drop (k + 1) M)))) ++ List.drop (n - 1) (List.take k M ++ ([X] ++ List.drop (k + 1) M)))) ++
      (List.replicate (n - (n - 1)) Z ++ List.drop n (List.take (k + 1) (List.take k M ++ ([X] ++ List.drop (k + 1) M)) ++ (List.take (n - 1 - (k + 1)) (List.take (n - (k + 2)) (List.drop (k + 2) (List.take k M ++ ([X] ++ List.drop (k + 1) M)))) ++ List.drop (n - 1) (List.take k M ++ ([X] ++ List.drop (k + 1) M))))) =
    List.take k M ++ X :: (List.drop (k + 2) M ++ [Z]) := by
  have eA : (List.take k M).length = k := by rw [List.length_take]; omega
  have g1 : List.take (k + 1) (List.take k M ++ ([X] ++ List.drop (k + 1) M)) = List.take k M ++ [X] := take_mid _ _ _ eA
  have g2 : List.drop (k + 2) (List.take k M ++ ([X] ++ List.drop (k + 1) M)) = List.drop (k + 2) M := by
    have : List.drop (k + 1 + 1) (List.take k M ++ ([X] ++ List.drop (k + 1) M)) = List.drop 1 (List.drop (k + 1) (List.take k M ++ X :: List.drop (k + 1) M)) := by
      rw [List.drop_drop]; rfl
    rw [show k + 2 = k + 1 + 1 by omega, this, drop_mid _ _ _ eA, List.drop_drop]
  have g3 : (List.drop (n - 1) (List.take k M ++ ([X] ++ List.drop (k + 1) M))).length = 1 := by
    simp; omega
  have g4 : (List.drop (k + 2) M).length = n - (k + 2) := by rw [List.length_drop, hM]
  rw [g1, g2, List.take_of_length_le (show (List.drop (k + 2) M).length ≤ n - (k + 2) by omega), List.take_of_length_le (show (List.drop (k + 2) M).length ≤ n - 1 - (k + 1) by omega)]
  generalize List.drop (n - 1) (List.take k M ++ ([X] ++ List.drop (k + 1) M)) = E at g3
  have g5 : (List.take k M ++ [X] ++ List.drop (k + 2) M).length = n - 1 := by
    rw [List.length_append, List.length_append, eA, g4]; simp; omega
  have g6 : List.take k M ++ [X] ++ (List.drop (k + 2) M ++ E) = (List.take k M ++ [X] ++ List.drop (k + 2) M) ++ E := (List.append_assoc _ _ _).symm
  have g7 : List.take (n - 1) ((List.take k M ++ [X] ++ List.drop (k + 2) M) ++ E) = List.take k M ++ [X] ++ List.drop (k + 2) M := by
    rw [List.take_append_of_le_length (Nat.le_of_eq g5.symm), List.take_of_length_le (Nat.le_of_eq g5)]
  have g8 : List.drop n ((List.take k M ++ [X] ++ List.drop (k + 2) M) ++ E) = [] := by
    refine List.drop_eq_nil_of_le ?_
    rw [List.length_append, g5, g3]
    omega
  rw [g6, g7, g8, show n - (n - 1) = 1 by omega]
  show List.take k M ++ [X] ++ List.drop (k + 2) M ++ ([Z] ++ []) = _
  rw [List.append_nil, List.append_assoc, List.append_assoc]
  rfl
theorem replace_b (l : List (List Int)) (x : List Int) (k : Nat) (hk : k + 1 < l.length) (hl : l.length ≤ 100) (b : Bool) :
    CallB Tryz.prog 18 [.sl 101 0 0 l.length, iv (k : Int), iv ((k : Int) + 2), .seq 1 [ints x] b] [(101, some ⟨1, l.map ints, 0, false⟩)] (.sl 101 0 0 (l.length - 1))
      [(101, some ⟨1, (l.take k ++ x :: l.drop (k + 2)).map ints ++ [.raw (.slice none 0 0)], 0, false⟩)] := by
  refine CB18 (by simp) (by simp) ?_
  simp [A18]
  have h1 : ¬ (k : Int) = (k : Int) + 2 := by omega
  have h2 : (k : Int) + 2 ≤ l.length := by omega
  have h3 : k ≤ l.length := by omega
  try simp [h1, h2, h3]
  repeat (refine PreK.intro (by first | omega | (intros; first | omega | (refine ⟨by omega, ?_⟩; simp_all; done) | (simp_all; done) | (simp_all; omega))) fun _ => ?_; (try simp [h1, h2, h3]))
  refine CondK.ff ?_
  try simp 
  try simp [h1, h2, h3]
  repeat (refine PreK.intro (by first | omega | (intros; first | omega | (refine ⟨by omega, ?_⟩; simp_all; done) | (simp_all; done) | (simp_all; omega))) fun _ => ?_; (try simp [h1, h2, h3]))
  by_cases h4 : (k : Int) + 2 = l.length
  · have hka : k < l.length := by omega
    have hkb : k + 1 ≤ l.length := by omega
    have hlt : (k : Int) + 1 < l.length := by omega
    try simp [h4, h1, h2, h3]
    repeat (refine PreK.intro (by first | omega | (intros; first | omega | (refine ⟨by omega, ?_⟩; simp_all; done) | (simp_all; done) | (simp_all; omega))) fun _ => ?_; (try simp [h4, h1, h2, h3]))
    refine CondK.tt ?_
    try simp 
    try simp [hka, hkb]
    repeat (refine PreK.intro (by first | omega | (intros; first | omega | (refine ⟨by omega, ?_⟩; simp_all; done) | (simp_all; done) | (simp_all; omega))) fun _ => ?_; (try simp [hka, hkb]))
    try simp [hka, hkb, hlt]
    repeat (refine PreK.intro (by first | omega | (intros; first | omega | (refine ⟨by omega, ?_⟩; simp_all; done) | (simp_all; done) | (simp_all; omega))) fun _ => ?_; (try simp [hka, hkb, hlt]))
    refine CondK.tt ?_
    try simp 
    try simp [hka, hkb, hlt]
    repeat (refine PreK.intro (by first | omega | (intros; first | omega | (refine ⟨by omega, ?_⟩; simp_all; done) | (simp_all; done) | (simp_all; omega))) fun _ => ?_; (try simp [hka, hkb, hlt]))
    have eA : (List.take k (List.map ints l)).length = k := by rw [List.length_take, List.length_map]; omega
    have hd : List.drop l.length (List.take k (List.map ints l) ++ AV.seq 1 (List.map iv x) false :: List.drop (k + 1) (List.map ints l)) = [] := List.drop_eq_nil_of_le (by simp; omega)
    have hd2 : List.drop (k + 2) (List.map ints l) = [] := List.drop_eq_nil_of_le (by simp; omega)
    rw [take_mid _ _ _ eA, hd, hd2, show l.length - (k + 1) = 1 by omega]
    exact ⟨by simp, by omega⟩
  · have e2 : ((k : Int) + 2).toNat = k + 2 := by omega
    try simp [h4, h1, h2, h3]
    repeat (refine PreK.intro (by first | omega | (intros; first | omega | (refine ⟨by omega, ?_⟩; simp_all; done) | (simp_all; done) | (simp_all; omega))) fun _ => ?_; (try simp [h4, h1, h2, h3]))
    refine CondK.ff ?_
    try simp 
    try simp [e2]
    repeat (refine PreK.intro (by first | omega | (intros; first | omega | (refine ⟨by omega, ?_⟩; simp_all; done) | (simp_all; done) | (simp_all; omega))) fun _ => ?_; (try simp [e2]))
    refine CapK.intro fun c hc => ?_
    have hcf : ¬ (c : Int) < (k : Int) + 1 + ((l.length - (k + 2) : Nat) : Int) := by omega
    have htn : ((k : Int) + 1 + ((l.length - (k + 2) : Nat) : Int)).toNat = l.length - 1 := by omega
    have ht0 : (0 : Int) ≤ (k : Int) + 1 + ((l.length - (k + 2) : Nat) : Int) := by omega
    have ht1 : (k : Int) + 1 + ((l.length - (k + 2) : Nat) : Int) ≤ l.length := by omega
    have hle : (k : Int) + 1 ≤ (k : Int) + 2 := by omega
    try simp [hcf]
    repeat (refine PreK.intro (by first | omega | (intros; first | omega | (refine ⟨by omega, ?_⟩; simp_all; done) | (simp_all; done) | (simp_all; omega))) fun _ => ?_; (try simp [hcf]))
    refine CondK.ff ?_
    try simp 
    try simp [htn, ht0, ht1, hle, e2]
    repeat (refine PreK.intro (by first | omega | (intros; first | omega | (refine ⟨by omega, ?_⟩; simp_all; done) | (simp_all; done) | (simp_all; omega))) fun _ => ?_; (try simp [htn, ht0, ht1, hle, e2]))
    refine CondK.tt ?_
    try simp 
    try simp [htn, ht0, ht1, hle, e2]
    repeat (refine PreK.intro (by first | omega | (intros; first | omega | (refine ⟨by omega, ?_⟩; simp_all; done) | (simp_all; done) | (simp_all; omega))) fun _ => ?_; (try simp [htn, ht0, ht1, hle, e2]))
    have hMl : (List.map ints l).length = l.length := List.length_map _
    have hk2 : k + 2 < l.length := by omega
    have f1 : List.take (l.length - 1 - k) [AV.seq 1 (List.map iv x) false] = [AV.seq 1 (List.map iv x) false] := List.take_of_length_le (by simp; omega)
    have f2 : k + min (l.length - 1 - k) 1 = k + 1 := by omega
    have f4 : k + 1 + min (l.length - 1 - (k + 1)) (min (l.length - (k + 2)) (min k l.length + (min (l.length - 1 - k) 1 + (l.length - (k + 1))) - (k + 2))) = l.length - 1 := by omega
    rw [f2]
    rw [f4, f1]
    exact rep_mid hMl hk2
theorem CallO.toPV {P : Program} {f : FuncId} {args : List AV} {sz : Nat} {els : List AV} (h : CallO P f args sz els) : CallP P f args (.seq sz els false) := by
  refine ⟨h.1, fun w X vs hX hlen hargs => Calls.mono (h.2 w X vs hX hlen hargs) ?_⟩
  rintro e w' ⟨v, rfl, hg, ho⟩
  refine ⟨_, rfl, hg, ?_⟩
  rcases ho with ⟨rfl, p, rfl⟩ | ⟨g, base, cap, c, el, rfl, _, hge, hw, hcap, hfit, hbig, h1, hr⟩
  · exact .nil
  · have hx : ¬ X g := fun hx => by have := hX g hx; omega
    have hm : els.length * sz ≤ cap * sz := Nat.mul_le_mul_right _ hcap
    refine .seq hx hw hcap (fun h => by cases h) hbig (by omega) (fun i hi => (hr i hi).1) (fun j _ hj => h1 j (by omega)) fun i hi => ?_
    exact (hr i hi).2.mono (fun q hq _ => ⟨fun hy => hq (.inl hy), rfl⟩) (Mu.later.refl _)
theorem scopied_o (t : List (List Int)) (h : Sm t) : CallO Tryz.prog 17 [tabV t] 1 (t.map ints) := by
  refine CO17 (by simp) ?_
  have hn := h.num
  simp [A17]
  try simp 
  repeat (refine PreK.intro (by first | omega | (intros; first | omega | (refine ⟨by omega, ?_⟩; simp_all; done) | (simp_all; done) | (simp_all; omega))) fun _ => ?_; (try simp ))
  refine LoopK.by (ι := Nat × Nat × List (List Int)) (fun x => ⟨[(8, iv x.1), (7, iv t.length), (6, tabV t), (3, .sl 3 x.2.1 0 x.2.2.length)], [(3, some ⟨1, x.2.2.map ints, x.2.1, false⟩)]⟩) (fun x => t.length - x.1)
    (fun x => x.1 ≤ t.length ∧ x.2.2.length ≤ x.1 ∧ x.2.2 = t.take x.1) (0, 1, []) ⟨Nat.zero_le _, by simp, by simp⟩ (by simp) ?_
  intro ⟨i, v, out⟩ Q' ⟨hi, hol, ho⟩ hq he hr
  dsimp only at hi hol ho
  try simp 
  refine CondK.intro (fun h7 => ?_) (fun h7 => ?_)
  · simp at h7
    have hst : t.take (i + 1) = t.take i ++ [el t i] := take_succ t i h7
    have hw := h.el i
    have hcl := clone_o (el t i) (by omega)
    try simp [h7]
    repeat (refine PreK.intro (by first | omega | (intros; first | omega | (refine ⟨by omega, ?_⟩; simp_all; done) | (simp_all; done) | (simp_all; omega))) fun _ => ?_; (try simp [h7]))
    refine CallX.own (by simpa using hcl) (by simp) (by simp) ?_
    try simp [h7]
    repeat (refine PreK.intro (by first | omega | (intros; first | omega | (refine ⟨by omega, ?_⟩; simp_all; done) | (simp_all; done) | (simp_all; omega))) fun _ => ?_; (try simp [h7]))
    exact hq (i + 1, v + 1, out ++ [el t i]) _ ⟨by dsimp only; omega, by simp; omega, by rw [ho, hst]⟩ (by dsimp only; omega) (by simp)
  · simp at h7
    have : i = t.length := by omega
    subst this
    rw [List.take_length] at ho
    try simp 
    apply he
    try simp [ho]
    repeat (refine PreK.intro (by first | omega | (intros; first | omega | (refine ⟨by omega, ?_⟩; simp_all; done) | (simp_all; done) | (simp_all; omega))) fun _ => ?_; (try simp [ho]))
theorem weakL_ivs : ∀ l : List Int, weakL (l.map iv) = l.map iv
  | [] => by simp [weakL]
  | a :: l => by simp [weakL, weak, weakL_ivs l]
theorem take_last (A D : List AV) (X Z : AV) {n : Nat} (h : A.length + D.length + 1 = n) : List.take n (A ++ X :: (D ++ [Z])) = A ++ X :: D := by
  have e : A ++ X :: (D ++ [Z]) = (A ++ X :: D) ++ [Z] := by simp
  have hl : (A ++ X :: D).length = n := by rw [List.length_append, List.length_cons]; omega
  rw [e, List.take_append_of_le_length (Nat.le_of_eq hl.symm), List.take_of_length_le (Nat.le_of_eq hl)]
def JoinR (t : List (List Int)) (k : Int) : List (List Int) × Int := if tabErr t ≠ 0 then ([], tabErr t) else if 0 ≤ k ∧ k ≤ (t.length : Int) - 2 then (joinM t k.toNat, 0) else ([], 4)
theorem Join_c (t : List (List Int)) (k : Int) (hs : Sm t) : CallP Tryz.prog 10 [tabV t, iv k] (.tup [tabV (JoinR t k).1, iv (JoinR t k).2]) := by
  refine C10 (by simp) ?_
  have c1 := Validate_c t hs
  generalize hR : JoinR t k = R
  unfold JoinR at hR
  simp [A10]
  try simp 
  repeat' (first
    | (refine CallX.pure (c1) (by simp) (by simp) ?_; try simp )
    | (refine CallK.intro (c1) (by simp) (by simp) ?_; try simp )
    | (refine CallG.intro (fun _ => c1) (by simp) (by simp) ?_; try simp )
    | ((with_reducible refine PreK.intro ?_ ?_); (next => (first | omega | (intros; first | omega | (refine ⟨by omega, ?_⟩; repeat (first | assumption | constructor)) | assumption))); intro _; try simp )
    | fail)
  by_cases h1 : tabErr t = 0
  · rw [if_neg (by simpa using h1)] at hR
    have hok := tabErr_zero.1 h1
    have hpos := hok.pos
    have hnum := hok.num
    have c2 := swithin_c k 0 ((t.length : Int) - 2)
    try simp [h1]
    repeat (refine PreK.intro (by first | omega | (intros; first | omega | (refine ⟨by omega, ?_⟩; simp_all; done) | (simp_all; done) | (simp_all; omega))) fun _ => ?_; (try simp [h1]))
    refine CondK.ff ?_
    try simp 
    try simp 
    repeat (refine PreK.intro (by first | omega | (intros; first | omega | (refine ⟨by omega, ?_⟩; simp_all; done) | (simp_all; done) | (simp_all; omega))) fun _ => ?_; (try simp ))
    by_cases h2 : 0 ≤ k ∧ k ≤ (t.length : Int) - 2
    · rw [if_pos h2] at hR
      have hw : (decide (0 ≤ k) && decide (k ≤ (t.length : Int) - 2)) = true := by simp [h2]
      rw [hw] at c2
      obtain ⟨h2a, h2b⟩ := h2
      obtain ⟨k, rfl⟩ := Int.eq_ofNat_of_zero_le h2a
      rw [Int.toNat_natCast] at hR
      subst hR
      have hk1 : k + 1 < t.length := by omega
      have hk0 : k < t.length := by omega
      have hk1' : (k : Int) + 1 < t.length := by omega
      have hwa := hs.el k
      have hwb := hs.el (k + 1)
      have c3 := scopied_o t hs
      have c4 : CallP Tryz.prog 23 [.seq 1 ([el t k, el t (k + 1)].map ints) false] (ints (el t k ++ el t (k + 1))) := by
        have := CallO.toPV (concat_o [el t k, el t (k + 1)] (by simp) (by simp; omega))
        simpa using this
      have c5 := replace_b t (el t k ++ el t (k + 1)) k hk1 (by omega) true
      try simp 
      repeat' (first
        | (refine CallX.pure (c2) (by simp) (by simp) ?_; try simp )
        | (refine CallK.intro (c2) (by simp) (by simp) ?_; try simp )
        | (refine CallG.intro (fun _ => c2) (by simp) (by simp) ?_; try simp )
        | ((with_reducible refine PreK.intro ?_ ?_); (next => (first | omega | (intros; first | omega | (refine ⟨by omega, ?_⟩; repeat (first | assumption | constructor)) | assumption))); intro _; try simp )
        | fail)
      refine CondK.ff ?_
      try simp 
      try simp 
      repeat (refine PreK.intro (by first | omega | (intros; first | omega | (refine ⟨by omega, ?_⟩; simp_all; done) | (simp_all; done) | (simp_all; omega))) fun _ => ?_; (try simp ))
      refine CallX.own (by simpa using c3) (by simp) (by simp) ?_
      try simp [hk0, hk1, hk1']
      repeat (refine PreK.intro (by first | omega | (intros; first | omega | (refine ⟨by omega, ?_⟩; simp_all; done) | (simp_all; done) | (simp_all; omega))) fun _ => ?_; (try simp [hk0, hk1, hk1']))
      refine CallK.intro (CallP.weak (by simpa [weakL, weak, weakL_ivs] using c4)) (by simp) (by simp) ?_
      try simp 
      repeat (refine PreK.intro (by first | omega | (intros; first | omega | (refine ⟨by omega, ?_⟩; simp_all; done) | (simp_all; done) | (simp_all; omega))) fun _ => ?_; (try simp ))
      refine CallK.boxes [(20, 1, 101)] (by simp) (by simpa using c5) ?_
      try simp 
      repeat (refine PreK.intro (by first | omega | (intros; first | omega | (refine ⟨by omega, ?_⟩; simp_all; done) | (simp_all; done) | (simp_all; omega))) fun _ => ?_; (try simp ))
      rw [take_last _ _ _ _ (by simp; omega)]
      unfold joinM
      rw [List.map_append, List.map_cons, List.map_take, List.map_drop]
      simp
    · rw [if_neg h2] at hR
      subst hR
      have hw : (decide (0 ≤ k) && decide (k ≤ (t.length : Int) - 2)) = false := by
        cases hb : (decide (0 ≤ k) && decide (k ≤ (t.length : Int) - 2)) with
        | false => rfl
        | true => exact absurd (by simpa using hb) h2
      rw [hw] at c2
      try simp 
      repeat' (first
        | (refine CallX.pure (c2) (by simp) (by simp) ?_; try simp )
        | (refine CallK.intro (c2) (by simp) (by simp) ?_; try simp )
        | (refine CallG.intro (fun _ => c2) (by simp) (by simp) ?_; try simp )
        | ((with_reducible refine PreK.intro ?_ ?_); (next => (first | omega | (intros; first | omega | (refine ⟨by omega, ?_⟩; repeat (first | assumption | constructor)) | assumption))); intro _; try simp )
        | fail)
      refine CondK.tt ?_
      try simp 
      try simp 
      repeat (refine PreK.intro (by first | omega | (intros; first | omega | (refine ⟨by omega, ?_⟩; simp_all; done) | (simp_all; done) | (simp_all; omega))) fun _ => ?_; (try simp ))
  · rw [if_pos h1] at hR
    subst hR
    try simp [h1]
    repeat (refine PreK.intro (by first | omega | (intros; first | omega | (refine ⟨by omega, ?_⟩; simp_all; done) | (simp_all; done) | (simp_all; omega))) fun _ => ?_; (try simp [h1]))
    refine CondK.tt ?_
    try simp 
    try simp 
    repeat (refine PreK.intro (by first | omega | (intros; first | omega | (refine ⟨by omega, ?_⟩; simp_all; done) | (simp_all; done) | (simp_all; omega))) fun _ => ?_; (try simp ))
theorem frzL_app (b : Box) (id : Nat) : ∀ x y : List AV, frzL b id (x ++ y) = frzL b id x ++ frzL b id y
  | [], y => rfl
  | a :: x, y => by simp [frzL_app b id x y]
theorem frzL_ints (b : Box) (id : Nat) : ∀ l : List (List Int), frzL b id (l.map ints) = l.map ints
  | [] => rfl
  | a :: l => by rw [List.map_cons, frzL, frzL_ints b id l]; rfl
theorem refsL_app : ∀ x y : List AV, AV.refsL (x ++ y) = AV.refsL x ++ AV.refsL y
  | [], y => rfl
  | a :: x, y => by simp [refsL_app x y]
theorem refsL_ints : ∀ l : List (List Int), AV.refsL (l.map ints) = []
  | [] => rfl
  | a :: l => by rw [List.map_cons, AV.refsL, refsL_ints l]; rfl
end Go.Proofs.YtphkchjhghdhiaaGreat
end

section
/- PURSE -/
/- Contracts: two rows made of one, in new memory (sound.Split). (written by mkspb.py) -/
namespace Go.Proofs.YtphkchjhghdhiaaGreat
open Go.Abs Go
set_option maxRecDepth 20000
set_option maxHeartbeats 8000000
attribute [local irreducible] PreK CondK CallK CallG CallX LoopK
attribute [local simp] avsEq avEq akind teq vkind vEq

def rowN (t : List (List Int)) (n : Nat) : List AV := (List.range n).map fun i => .sl (100 + i) 1 0 (el t i).length
def rowM (t : List (List Int)) (n : Nat) : List (Nat × Option Box) := (List.range n).map fun i => (100 + i, some ⟨1, (el t i).map iv, 1, false⟩)
theorem range_succ' (n : Nat) : List.range (n + 1) = List.range n ++ [n] := List.range_succ
theorem CM17 {args : List AV} {r : AV} {m' : List (Nat × Option Box)} (hn : args.length ≤ 19) (h : vc Tryz.prog T [15] A17 (FinM T [(.tmp 2)] r m') ⟨envOf 0 args, []⟩) : CallM Tryz.prog 17 args r m' :=
  callM_of tok mixed Tryz.func17 (by kernel_rfl) (by kernel_rfl) (by kernel_rfl : Tryz.f17.ntmps = 19) (by kernel_rfl : Tryz.f17.body.bind (strip 19 (fun _ => [])) = some A17) hn h
theorem scopied_m (t : List (List Int)) (h1 : 1 ≤ t.length) (h6 : t.length ≤ 6) (hw : ∀ j, j < t.length → 1 ≤ (el t j).length ∧ (el t j).length ≤ 1000) :
    CallM Tryz.prog 17 [tabV t] (.sl 3 (t.length + 1) 0 t.length) ((3, some ⟨1, rowN t t.length, t.length + 1, true⟩) :: rowM t t.length) := by
  refine CM17 (by simp) ?_
  simp [A17]
  try simp 
  repeat (refine PreK.intro (by first | omega | (intros; first | omega | (refine ⟨by omega, ?_⟩; simp_all; done) | (simp_all; done) | (simp_all; omega))) fun _ => ?_; (try simp ))
  refine LoopK.byR (ι := Nat) (fun i => ⟨[(8, iv i), (7, iv t.length), (6, tabV t), (3, .sl 3 (i + 1) 0 i)], (3, some ⟨1, rowN t i, i + 1, true⟩) :: rowM t i⟩) (fun i => t.length - i) (fun i => i ≤ t.length) 0 (Nat.zero_le _) (by simp [rowN, rowM, leEls_refl]) ?_
  intro i Q' hi hq he hr hfz
  by_cases h2 : i < t.length
  · obtain ⟨hwa, hwb⟩ := hw i h2
    have hwc : ¬ el t i = [] := fun e => by rw [e] at hwa; simp at hwa
    have hcl := clone_o (el t i) hwb
    have hi6 : i = 0 ∨ i = 1 ∨ i = 2 ∨ i = 3 ∨ i = 4 ∨ i = 5 := by omega
    rcases hi6 with rfl | rfl | rfl | rfl | rfl | rfl
    · have h2' : (0 : Int) < t.length := by omega
      simp only [rowN, rowM, range_succ', List.range_zero, List.nil_append, List.map_append, List.map_cons, List.map_nil, List.cons_append]
      try simp [h2, h2']
      repeat (refine PreK.intro (by first | omega | (intros; first | omega | (refine ⟨by omega, ?_⟩; simp_all; done) | (simp_all; done) | (simp_all; omega))) fun _ => ?_; (try simp [h2, h2']))
      refine CondK.intro (fun h3 => ?_) (fun h3 => ?_)
      · try simp [h2, h2', hwc]
        repeat (refine PreK.intro (by first | omega | (intros; first | omega | (refine ⟨by omega, ?_⟩; simp_all; done) | (simp_all; done) | (simp_all; omega))) fun _ => ?_; (try simp [h2, h2', hwc]))
        refine CallX.own (by simpa using hcl) (by simp) (by simp) ?_
        try simp [h2, h2', hwc]
        repeat (refine PreK.intro (by first | omega | (intros; first | omega | (refine ⟨by omega, ?_⟩; simp_all; done) | (simp_all; done) | (simp_all; omega))) fun _ => ?_; (try simp [h2, h2', hwc]))
        refine hq 1 [(14, 100)] _ (by omega) (by omega) ?_
        simp [rowN, rowM, range_succ', leEls_refl]
        done
      · simp at h3
    · have h2' : (1 : Int) < t.length := by omega
      simp only [rowN, rowM, range_succ', List.range_zero, List.nil_append, List.map_append, List.map_cons, List.map_nil, List.cons_append]
      try simp [h2, h2']
      repeat (refine PreK.intro (by first | omega | (intros; first | omega | (refine ⟨by omega, ?_⟩; simp_all; done) | (simp_all; done) | (simp_all; omega))) fun _ => ?_; (try simp [h2, h2']))
      refine CondK.intro (fun h3 => ?_) (fun h3 => ?_)
      · try simp [h2, h2', hwc]
        repeat (refine PreK.intro (by first | omega | (intros; first | omega | (refine ⟨by omega, ?_⟩; simp_all; done) | (simp_all; done) | (simp_all; omega))) fun _ => ?_; (try simp [h2, h2', hwc]))
        refine CallX.own (by simpa using hcl) (by simp) (by simp) ?_
        try simp [h2, h2', hwc]
        repeat (refine PreK.intro (by first | omega | (intros; first | omega | (refine ⟨by omega, ?_⟩; simp_all; done) | (simp_all; done) | (simp_all; omega))) fun _ => ?_; (try simp [h2, h2', hwc]))
        refine hq 2 [(14, 101)] _ (by omega) (by omega) ?_
        simp [rowN, rowM, range_succ', leEls_refl]
        done
      · simp at h3
    · have h2' : (2 : Int) < t.length := by omega
      simp only [rowN, rowM, range_succ', List.range_zero, List.nil_append, List.map_append, List.map_cons, List.map_nil, List.cons_append]
      try simp [h2, h2']
      repeat (refine PreK.intro (by first | omega | (intros; first | omega | (refine ⟨by omega, ?_⟩; simp_all; done) | (simp_all; done) | (simp_all; omega))) fun _ => ?_; (try simp [h2, h2']))
      refine CondK.intro (fun h3 => ?_) (fun h3 => ?_)
      · try simp [h2, h2', hwc]
        repeat (refine PreK.intro (by first | omega | (intros; first | omega | (refine ⟨by omega, ?_⟩; simp_all; done) | (simp_all; done) | (simp_all; omega))) fun _ => ?_; (try simp [h2, h2', hwc]))
        refine CallX.own (by simpa using hcl) (by simp) (by simp) ?_
        try simp [h2, h2', hwc]
        repeat (refine PreK.intro (by first | omega | (intros; first | omega | (refine ⟨by omega, ?_⟩; simp_all; done) | (simp_all; done) | (simp_all; omega))) fun _ => ?_; (try simp [h2, h2', hwc]))
        refine hq 3 [(14, 102)] _ (by omega) (by omega) ?_
        simp [rowN, rowM, range_succ', leEls_refl]
        done
      · simp at h3
    · have h2' : (3 : Int) < t.length := by omega
      simp only [rowN, rowM, range_succ', List.range_zero, List.nil_append, List.map_append, List.map_cons, List.map_nil, List.cons_append]
      try simp [h2, h2']
      repeat (refine PreK.intro (by first | omega | (intros; first | omega | (refine ⟨by omega, ?_⟩; simp_all; done) | (simp_all; done) | (simp_all; omega))) fun _ => ?_; (try simp [h2, h2']))
      refine CondK.intro (fun h3 => ?_) (fun h3 => ?_)
      · try simp [h2, h2', hwc]
        repeat (refine PreK.intro (by first | omega | (intros; first | omega | (refine ⟨by omega, ?_⟩; simp_all; done) | (simp_all; done) | (simp_all; omega))) fun _ => ?_; (try simp [h2, h2', hwc]))
        refine CallX.own (by simpa using hcl) (by simp) (by simp) ?_
        try simp [h2, h2', hwc]
        repeat (refine PreK.intro (by first | omega | (intros; first | omega | (refine ⟨by omega, ?_⟩; simp_all; done) | (simp_all; done) | (simp_all; omega))) fun _ => ?_; (try simp [h2, h2', hwc]))
        refine hq 4 [(14, 103)] _ (by omega) (by omega) ?_
        simp [rowN, rowM, range_succ', leEls_refl]
        done
      · simp at h3
    · have h2' : (4 : Int) < t.length := by omega
      simp only [rowN, rowM, range_succ', List.range_zero, List.nil_append, List.map_append, List.map_cons, List.map_nil, List.cons_append]
      try simp [h2, h2']
      repeat (refine PreK.intro (by first | omega | (intros; first | omega | (refine ⟨by omega, ?_⟩; simp_all; done) | (simp_all; done) | (simp_all; omega))) fun _ => ?_; (try simp [h2, h2']))
      refine CondK.intro (fun h3 => ?_) (fun h3 => ?_)
      · try simp [h2, h2', hwc]
        repeat (refine PreK.intro (by first | omega | (intros; first | omega | (refine ⟨by omega, ?_⟩; simp_all; done) | (simp_all; done) | (simp_all; omega))) fun _ => ?_; (try simp [h2, h2', hwc]))
        refine CallX.own (by simpa using hcl) (by simp) (by simp) ?_
        try simp [h2, h2', hwc]
        repeat (refine PreK.intro (by first | omega | (intros; first | omega | (refine ⟨by omega, ?_⟩; simp_all; done) | (simp_all; done) | (simp_all; omega))) fun _ => ?_; (try simp [h2, h2', hwc]))
        refine hq 5 [(14, 104)] _ (by omega) (by omega) ?_
        simp [rowN, rowM, range_succ', leEls_refl]
        done
      · simp at h3
    · have h2' : (5 : Int) < t.length := by omega
      simp only [rowN, rowM, range_succ', List.range_zero, List.nil_append, List.map_append, List.map_cons, List.map_nil, List.cons_append]
      try simp [h2, h2']
      repeat (refine PreK.intro (by first | omega | (intros; first | omega | (refine ⟨by omega, ?_⟩; simp_all; done) | (simp_all; done) | (simp_all; omega))) fun _ => ?_; (try simp [h2, h2']))
      refine CondK.intro (fun h3 => ?_) (fun h3 => ?_)
      · try simp [h2, h2', hwc]
        repeat (refine PreK.intro (by first | omega | (intros; first | omega | (refine ⟨by omega, ?_⟩; simp_all; done) | (simp_all; done) | (simp_all; omega))) fun _ => ?_; (try simp [h2, h2', hwc]))
        refine CallX.own (by simpa using hcl) (by simp) (by simp) ?_
        try simp [h2, h2', hwc]
        repeat (refine PreK.intro (by first | omega | (intros; first | omega | (refine ⟨by omega, ?_⟩; simp_all; done) | (simp_all; done) | (simp_all; omega))) fun _ => ?_; (try simp [h2, h2', hwc]))
        refine hq 6 [(14, 105)] _ (by omega) (by omega) ?_
        simp [rowN, rowM, range_succ', leEls_refl]
        done
      · simp at h3
  · have : i = t.length := by omega
    subst this
    have hn : t.length = 1 ∨ t.length = 2 ∨ t.length = 3 ∨ t.length = 4 ∨ t.length = 5 ∨ t.length = 6 := by omega
    try simp 
    refine CondK.intro (fun h3 => ?_) (fun h3 => ?_)
    · simp at h3
    · try simp 
      apply he
      try simp 
      repeat (refine PreK.intro (by first | omega | (intros; first | omega | (refine ⟨by omega, ?_⟩; simp_all; done) | (simp_all; done) | (simp_all; omega))) fun _ => ?_; (try simp ))
      refine ⟨[], [], ?_⟩
      rcases hn with h | h | h | h | h | h <;> simp [h, rowN, rowM, range_succ'] <;> done
theorem CallO.weak {P : Program} {f : FuncId} {args : List AV} {sz : Nat} {els : List AV} (h : CallO P f (weakL args) sz els) : CallO P f args sz els := by
  refine ⟨h.1, fun w X vs hX hlen hargs => ?_⟩
  refine h.2 w X vs hX (by rw [weakL_length]; exact hlen) fun i hi => ?_
  rw [weakL_length] at hi
  rw [weakL_get hi]
  exact (hargs i hi).weak
theorem weakL_tk (l : List Int) (c : Nat) : weakL ((l.map iv).take c) = (l.map iv).take c := by rw [← List.map_take, weakL_ivs]
theorem CM7 {args : List AV} {r : AV} {m' : List (Nat × Option Box)} (hn : args.length ≤ 56) (h : vc Tryz.prog T [54] A7 (FinM T [(.tmp 6), (.tmp 7)] r m') ⟨envOf 0 args, []⟩) : CallM Tryz.prog 7 args r m' :=
  callM_of tok mixed Tryz.func7 (by kernel_rfl) (by kernel_rfl) (by kernel_rfl : Tryz.f7.ntmps = 56) (by kernel_rfl : Tryz.f7.body.bind (strip 56 (fun _ => [])) = some A7) hn h
/-- Rows that are owned: names and boxes. -/
def namS : Nat → List (List Int) → List AV
  | _, [] => []
  | j, x :: l => .sl (200 + j) 1 0 x.length :: namS (j + 1) l
def rowS : Nat → List (List Int) → List (Nat × Option Box)
  | _, [] => []
  | j, x :: l => (200 + j, some ⟨1, x.map iv, 1, false⟩) :: rowS (j + 1) l
theorem split_1_0 (r0 : List Int) (c : Nat) (hs : Sm [r0]) (hok : TabOK [r0]) (h1 : 1 ≤ c) (h2 : c < r0.length) :
    CallM Tryz.prog 7 [tabV [r0], iv 0, iv c] (.tup [.sl 1003 3 0 2, iv 0]) ((1003, some ⟨1, namS 0 [(r0.take c), (r0.drop c)], 3, true⟩) :: rowS 0 [(r0.take c), (r0.drop c)]) := by
  refine CM7 (by simp) ?_
  have hv := Validate_c [r0] hs
  rw [tabErr_zero.2 hok] at hv
  have c2 := swithin_c 0 0 0
  have c3 := swithin_c c 1 ((r0.length : Int) - 1)
  have hw : (decide ((1 : Int) ≤ c) && decide ((c : Int) ≤ (r0.length : Int) - 1)) = true := by
    rw [decide_eq_true (by omega), decide_eq_true (by omega)]; rfl
  rw [hw] at c3
  have hcm := scopied_m [r0] (by simp) (by simp) (fun j hj => by
    have q1 := hok.row _ (el_mem_of _ j hj)
    have q2 := hs.el j
    refine ⟨?_, by omega⟩
    cases q3 : el [r0] j with
    | nil => exact absurd q3 q1
    | cons a b => simp)
  have hel : el [r0] 0 = r0 := by rfl
  simp only [hel, rowN, rowM, range_succ', List.range_zero, List.nil_append, List.map_append, List.map_cons, List.map_nil, List.cons_append, List.length_cons, List.length_nil, Nat.zero_add, Nat.reduceAdd] at hcm
  have hlk : r0.length ≤ 100 := hs.row _ (by simp)
  have ka := clone_o (r0.take c) (by rw [List.length_take]; omega)
  have kb := clone_o (r0.drop c) (by rw [List.length_drop]; omega)
  have hmin : min c r0.length = c := by omega
  have hmv := replace_mv 0 1 (by omega) (by omega)
  have hcl : (c : Int) ≤ r0.length := by omega
  have hcn : c ≤ r0.length := by omega
  simp [A7]
  try simp 
  repeat' (first
    | (refine CallX.pure (hv) (by simp) (by simp) ?_; try simp )
    | (refine CallK.intro (hv) (by simp) (by simp) ?_; try simp )
    | (refine CallG.intro (fun _ => hv) (by simp) (by simp) ?_; try simp )
    | ((with_reducible refine PreK.intro ?_ ?_); (next => (first | omega | (intros; first | omega | (refine ⟨by omega, ?_⟩; repeat (first | assumption | constructor)) | assumption))); intro _; try simp )
    | fail)
  refine CondK.ff ?_
  try simp 
  try simp 
  repeat (refine PreK.intro (by first | omega | (intros; first | omega | (refine ⟨by omega, ?_⟩; simp_all; done) | (simp_all; done) | (simp_all; omega))) fun _ => ?_; (try simp ))
  try simp 
  repeat' (first
    | (refine CallX.pure (c2) (by simp) (by simp) ?_; try simp )
    | (refine CallK.intro (c2) (by simp) (by simp) ?_; try simp )
    | (refine CallG.intro (fun _ => c2) (by simp) (by simp) ?_; try simp )
    | ((with_reducible refine PreK.intro ?_ ?_); (next => (first | omega | (intros; first | omega | (refine ⟨by omega, ?_⟩; repeat (first | assumption | constructor)) | assumption))); intro _; try simp )
    | fail)
  refine CondK.ff ?_
  try simp 
  try simp 
  repeat (refine PreK.intro (by first | omega | (intros; first | omega | (refine ⟨by omega, ?_⟩; simp_all; done) | (simp_all; done) | (simp_all; omega))) fun _ => ?_; (try simp ))
  try simp 
  repeat' (first
    | (refine CallX.pure (c3) (by simp) (by simp) ?_; try simp )
    | (refine CallK.intro (c3) (by simp) (by simp) ?_; try simp )
    | (refine CallG.intro (fun _ => c3) (by simp) (by simp) ?_; try simp )
    | ((with_reducible refine PreK.intro ?_ ?_); (next => (first | omega | (intros; first | omega | (refine ⟨by omega, ?_⟩; repeat (first | assumption | constructor)) | assumption))); intro _; try simp )
    | fail)
  refine CondK.ff ?_
  try simp 
  try simp 
  repeat (refine PreK.intro (by first | omega | (intros; first | omega | (refine ⟨by omega, ?_⟩; simp_all; done) | (simp_all; done) | (simp_all; omega))) fun _ => ?_; (try simp ))
  refine CondK.ff ?_
  try simp 
  try simp 
  repeat (refine PreK.intro (by first | omega | (intros; first | omega | (refine ⟨by omega, ?_⟩; simp_all; done) | (simp_all; done) | (simp_all; omega))) fun _ => ?_; (try simp ))
  refine CallX.mem 1000 (by simpa using hcm) (by simp) (by simp) (by simp) ?_
  try simp [hcl, hcn]
  repeat (refine PreK.intro (by first | omega | (intros; first | omega | (refine ⟨by omega, ?_⟩; simp_all; done) | (simp_all; done) | (simp_all; omega))) fun _ => ?_; (try simp [hcl, hcn]))
  refine CallK.own (CallO.weak (by simpa [weakL, weak, weakL_tk] using ka)) (by simp) ?_
  try simp [hcl, hcn, hmin]
  repeat (refine PreK.intro (by first | omega | (intros; first | omega | (refine ⟨by omega, ?_⟩; simp_all; done) | (simp_all; done) | (simp_all; omega))) fun _ => ?_; (try simp [hcl, hcn, hmin]))
  refine CallK.own (by simpa using kb) (by simp) ?_
  try simp [hcl, hcn, hmin]
  repeat (refine PreK.intro (by first | omega | (intros; first | omega | (refine ⟨by omega, ?_⟩; simp_all; done) | (simp_all; done) | (simp_all; omega))) fun _ => ?_; (try simp [hcl, hcn, hmin]))
  refine CallK.moves 0 (b := ⟨1, [.sl 1100 1 0 r0.length], 2, true⟩) (b2 := ⟨1, [.sl 46 1 0 c, .sl 53 1 0 (r0.length - c)], 1, true⟩) hmv (by simp) (by simp) (by simp) (by simp) (by simp) (by simp) (by simp) (by simp) (by simp) (by simp) (by simp) (by simp) (by simp) ?_
  try simp [hcl, hcn, hmin]
  repeat (refine PreK.intro (by first | omega | (intros; first | omega | (refine ⟨by omega, ?_⟩; simp_all; done) | (simp_all; done) | (simp_all; omega))) fun _ => ?_; (try simp [hcl, hcn, hmin]))
  refine ⟨[], [(46, 200), (53, 201)], ?_⟩
  simp [namS, rowS, movedE, hmin]
theorem split_2_0 (r0 r1 : List Int) (c : Nat) (hs : Sm [r0, r1]) (hok : TabOK [r0, r1]) (h1 : 1 ≤ c) (h2 : c < r0.length) :
    CallM Tryz.prog 7 [tabV [r0, r1], iv 0, iv c] (.tup [.sl 1003 4 0 3, iv 0]) ((1003, some ⟨1, namS 0 [(r0.take c), (r0.drop c), r1], 4, true⟩) :: rowS 0 [(r0.take c), (r0.drop c), r1]) := by
  refine CM7 (by simp) ?_
  have hv := Validate_c [r0, r1] hs
  rw [tabErr_zero.2 hok] at hv
  have c2 := swithin_c 0 0 1
  have c3 := swithin_c c 1 ((r0.length : Int) - 1)
  have hw : (decide ((1 : Int) ≤ c) && decide ((c : Int) ≤ (r0.length : Int) - 1)) = true := by
    rw [decide_eq_true (by omega), decide_eq_true (by omega)]; rfl
  rw [hw] at c3
  have hcm := scopied_m [r0, r1] (by simp) (by simp) (fun j hj => by
    have q1 := hok.row _ (el_mem_of _ j hj)
    have q2 := hs.el j
    refine ⟨?_, by omega⟩
    cases q3 : el [r0, r1] j with
    | nil => exact absurd q3 q1
    | cons a b => simp)
  have hel : el [r0, r1] 0 = r0 ∧ el [r0, r1] 1 = r1 := by exact ⟨rfl, rfl⟩
  simp only [hel, rowN, rowM, range_succ', List.range_zero, List.nil_append, List.map_append, List.map_cons, List.map_nil, List.cons_append, List.length_cons, List.length_nil, Nat.zero_add, Nat.reduceAdd] at hcm
  have hlk : r0.length ≤ 100 := hs.row _ (by simp)
  have ka := clone_o (r0.take c) (by rw [List.length_take]; omega)
  have kb := clone_o (r0.drop c) (by rw [List.length_drop]; omega)
  have hmin : min c r0.length = c := by omega
  have hmv := replace_mv 0 2 (by omega) (by omega)
  have hcl : (c : Int) ≤ r0.length := by omega
  have hcn : c ≤ r0.length := by omega
  simp [A7]
  try simp 
  repeat' (first
    | (refine CallX.pure (hv) (by simp) (by simp) ?_; try simp )
    | (refine CallK.intro (hv) (by simp) (by simp) ?_; try simp )
    | (refine CallG.intro (fun _ => hv) (by simp) (by simp) ?_; try simp )
    | ((with_reducible refine PreK.intro ?_ ?_); (next => (first | omega | (intros; first | omega | (refine ⟨by omega, ?_⟩; repeat (first | assumption | constructor)) | assumption))); intro _; try simp )
    | fail)
  refine CondK.ff ?_
  try simp 
  try simp 
  repeat (refine PreK.intro (by first | omega | (intros; first | omega | (refine ⟨by omega, ?_⟩; simp_all; done) | (simp_all; done) | (simp_all; omega))) fun _ => ?_; (try simp ))
  try simp 
  repeat' (first
    | (refine CallX.pure (c2) (by simp) (by simp) ?_; try simp )
    | (refine CallK.intro (c2) (by simp) (by simp) ?_; try simp )
    | (refine CallG.intro (fun _ => c2) (by simp) (by simp) ?_; try simp )
    | ((with_reducible refine PreK.intro ?_ ?_); (next => (first | omega | (intros; first | omega | (refine ⟨by omega, ?_⟩; repeat (first | assumption | constructor)) | assumption))); intro _; try simp )
    | fail)
  refine CondK.ff ?_
  try simp 
  try simp 
  repeat (refine PreK.intro (by first | omega | (intros; first | omega | (refine ⟨by omega, ?_⟩; simp_all; done) | (simp_all; done) | (simp_all; omega))) fun _ => ?_; (try simp ))
  try simp 
  repeat' (first
    | (refine CallX.pure (c3) (by simp) (by simp) ?_; try simp )
    | (refine CallK.intro (c3) (by simp) (by simp) ?_; try simp )
    | (refine CallG.intro (fun _ => c3) (by simp) (by simp) ?_; try simp )
    | ((with_reducible refine PreK.intro ?_ ?_); (next => (first | omega | (intros; first | omega | (refine ⟨by omega, ?_⟩; repeat (first | assumption | constructor)) | assumption))); intro _; try simp )
    | fail)
  refine CondK.ff ?_
  try simp 
  try simp 
  repeat (refine PreK.intro (by first | omega | (intros; first | omega | (refine ⟨by omega, ?_⟩; simp_all; done) | (simp_all; done) | (simp_all; omega))) fun _ => ?_; (try simp ))
  refine CondK.ff ?_
  try simp 
  try simp 
  repeat (refine PreK.intro (by first | omega | (intros; first | omega | (refine ⟨by omega, ?_⟩; simp_all; done) | (simp_all; done) | (simp_all; omega))) fun _ => ?_; (try simp ))
  refine CallX.mem 1000 (by simpa using hcm) (by simp) (by simp) (by simp) ?_
  try simp [hcl, hcn]
  repeat (refine PreK.intro (by first | omega | (intros; first | omega | (refine ⟨by omega, ?_⟩; simp_all; done) | (simp_all; done) | (simp_all; omega))) fun _ => ?_; (try simp [hcl, hcn]))
  refine CallK.own (CallO.weak (by simpa [weakL, weak, weakL_tk] using ka)) (by simp) ?_
  try simp [hcl, hcn, hmin]
  repeat (refine PreK.intro (by first | omega | (intros; first | omega | (refine ⟨by omega, ?_⟩; simp_all; done) | (simp_all; done) | (simp_all; omega))) fun _ => ?_; (try simp [hcl, hcn, hmin]))
  refine CallK.own (by simpa using kb) (by simp) ?_
  try simp [hcl, hcn, hmin]
  repeat (refine PreK.intro (by first | omega | (intros; first | omega | (refine ⟨by omega, ?_⟩; simp_all; done) | (simp_all; done) | (simp_all; omega))) fun _ => ?_; (try simp [hcl, hcn, hmin]))
  refine CallK.moves 0 (b := ⟨1, [.sl 1100 1 0 r0.length, .sl 1101 1 0 r1.length], 3, true⟩) (b2 := ⟨1, [.sl 46 1 0 c, .sl 53 1 0 (r0.length - c)], 1, true⟩) hmv (by simp) (by simp) (by simp) (by simp) (by simp) (by simp) (by simp) (by simp) (by simp) (by simp) (by simp) (by simp) (by simp) ?_
  try simp [hcl, hcn, hmin]
  repeat (refine PreK.intro (by first | omega | (intros; first | omega | (refine ⟨by omega, ?_⟩; simp_all; done) | (simp_all; done) | (simp_all; omega))) fun _ => ?_; (try simp [hcl, hcn, hmin]))
  refine ⟨[], [(46, 200), (53, 201), (1101, 202)], ?_⟩
  simp [namS, rowS, movedE, hmin]
theorem split_2_1 (r0 r1 : List Int) (c : Nat) (hs : Sm [r0, r1]) (hok : TabOK [r0, r1]) (h1 : 1 ≤ c) (h2 : c < r1.length) :
    CallM Tryz.prog 7 [tabV [r0, r1], iv 1, iv c] (.tup [.sl 1003 4 0 3, iv 0]) ((1003, some ⟨1, namS 0 [r0, (r1.take c), (r1.drop c)], 4, true⟩) :: rowS 0 [r0, (r1.take c), (r1.drop c)]) := by
  refine CM7 (by simp) ?_
  have hv := Validate_c [r0, r1] hs
  rw [tabErr_zero.2 hok] at hv
  have c2 := swithin_c 1 0 1
  have c3 := swithin_c c 1 ((r1.length : Int) - 1)
  have hw : (decide ((1 : Int) ≤ c) && decide ((c : Int) ≤ (r1.length : Int) - 1)) = true := by
    rw [decide_eq_true (by omega), decide_eq_true (by omega)]; rfl
  rw [hw] at c3
  have hcm := scopied_m [r0, r1] (by simp) (by simp) (fun j hj => by
    have q1 := hok.row _ (el_mem_of _ j hj)
    have q2 := hs.el j
    refine ⟨?_, by omega⟩
    cases q3 : el [r0, r1] j with
    | nil => exact absurd q3 q1
    | cons a b => simp)
  have hel : el [r0, r1] 0 = r0 ∧ el [r0, r1] 1 = r1 := by exact ⟨rfl, rfl⟩
  simp only [hel, rowN, rowM, range_succ', List.range_zero, List.nil_append, List.map_append, List.map_cons, List.map_nil, List.cons_append, List.length_cons, List.length_nil, Nat.zero_add, Nat.reduceAdd] at hcm
  have hlk : r1.length ≤ 100 := hs.row _ (by simp)
  have ka := clone_o (r1.take c) (by rw [List.length_take]; omega)
  have kb := clone_o (r1.drop c) (by rw [List.length_drop]; omega)
  have hmin : min c r1.length = c := by omega
  have hmv := replace_mv 1 2 (by omega) (by omega)
  have hcl : (c : Int) ≤ r1.length := by omega
  have hcn : c ≤ r1.length := by omega
  simp [A7]
  try simp 
  repeat' (first
    | (refine CallX.pure (hv) (by simp) (by simp) ?_; try simp )
    | (refine CallK.intro (hv) (by simp) (by simp) ?_; try simp )
    | (refine CallG.intro (fun _ => hv) (by simp) (by simp) ?_; try simp )
    | ((with_reducible refine PreK.intro ?_ ?_); (next => (first | omega | (intros; first | omega | (refine ⟨by omega, ?_⟩; repeat (first | assumption | constructor)) | assumption))); intro _; try simp )
    | fail)
  refine CondK.ff ?_
  try simp 
  try simp 
  repeat (refine PreK.intro (by first | omega | (intros; first | omega | (refine ⟨by omega, ?_⟩; simp_all; done) | (simp_all; done) | (simp_all; omega))) fun _ => ?_; (try simp ))
  try simp 
  repeat' (first
    | (refine CallX.pure (c2) (by simp) (by simp) ?_; try simp )
    | (refine CallK.intro (c2) (by simp) (by simp) ?_; try simp )
    | (refine CallG.intro (fun _ => c2) (by simp) (by simp) ?_; try simp )
    | ((with_reducible refine PreK.intro ?_ ?_); (next => (first | omega | (intros; first | omega | (refine ⟨by omega, ?_⟩; repeat (first | assumption | constructor)) | assumption))); intro _; try simp )
    | fail)
  refine CondK.ff ?_
  try simp 
  try simp 
  repeat (refine PreK.intro (by first | omega | (intros; first | omega | (refine ⟨by omega, ?_⟩; simp_all; done) | (simp_all; done) | (simp_all; omega))) fun _ => ?_; (try simp ))
  try simp 
  repeat' (first
    | (refine CallX.pure (c3) (by simp) (by simp) ?_; try simp )
    | (refine CallK.intro (c3) (by simp) (by simp) ?_; try simp )
    | (refine CallG.intro (fun _ => c3) (by simp) (by simp) ?_; try simp )
    | ((with_reducible refine PreK.intro ?_ ?_); (next => (first | omega | (intros; first | omega | (refine ⟨by omega, ?_⟩; repeat (first | assumption | constructor)) | assumption))); intro _; try simp )
    | fail)
  refine CondK.ff ?_
  try simp 
  try simp 
  repeat (refine PreK.intro (by first | omega | (intros; first | omega | (refine ⟨by omega, ?_⟩; simp_all; done) | (simp_all; done) | (simp_all; omega))) fun _ => ?_; (try simp ))
  refine CondK.ff ?_
  try simp 
  try simp 
  repeat (refine PreK.intro (by first | omega | (intros; first | omega | (refine ⟨by omega, ?_⟩; simp_all; done) | (simp_all; done) | (simp_all; omega))) fun _ => ?_; (try simp ))
  refine CallX.mem 1000 (by simpa using hcm) (by simp) (by simp) (by simp) ?_
  try simp [hcl, hcn]
  repeat (refine PreK.intro (by first | omega | (intros; first | omega | (refine ⟨by omega, ?_⟩; simp_all; done) | (simp_all; done) | (simp_all; omega))) fun _ => ?_; (try simp [hcl, hcn]))
  refine CallK.own (CallO.weak (by simpa [weakL, weak, weakL_tk] using ka)) (by simp) ?_
  try simp [hcl, hcn, hmin]
  repeat (refine PreK.intro (by first | omega | (intros; first | omega | (refine ⟨by omega, ?_⟩; simp_all; done) | (simp_all; done) | (simp_all; omega))) fun _ => ?_; (try simp [hcl, hcn, hmin]))
  refine CallK.own (by simpa using kb) (by simp) ?_
  try simp [hcl, hcn, hmin]
  repeat (refine PreK.intro (by first | omega | (intros; first | omega | (refine ⟨by omega, ?_⟩; simp_all; done) | (simp_all; done) | (simp_all; omega))) fun _ => ?_; (try simp [hcl, hcn, hmin]))
  refine CallK.moves 1 (b := ⟨1, [.sl 1100 1 0 r0.length, .sl 1101 1 0 r1.length], 3, true⟩) (b2 := ⟨1, [.sl 46 1 0 c, .sl 53 1 0 (r1.length - c)], 1, true⟩) hmv (by simp) (by simp) (by simp) (by simp) (by simp) (by simp) (by simp) (by simp) (by simp) (by simp) (by simp) (by simp) (by simp) ?_
  try simp [hcl, hcn, hmin]
  repeat (refine PreK.intro (by first | omega | (intros; first | omega | (refine ⟨by omega, ?_⟩; simp_all; done) | (simp_all; done) | (simp_all; omega))) fun _ => ?_; (try simp [hcl, hcn, hmin]))
  refine ⟨[], [(1100, 200), (46, 201), (53, 202)], ?_⟩
  simp [namS, rowS, movedE, hmin]
theorem split_3_0 (r0 r1 r2 : List Int) (c : Nat) (hs : Sm [r0, r1, r2]) (hok : TabOK [r0, r1, r2]) (h1 : 1 ≤ c) (h2 : c < r0.length) :
    CallM Tryz.prog 7 [tabV [r0, r1, r2], iv 0, iv c] (.tup [.sl 1003 5 0 4, iv 0]) ((1003, some ⟨1, namS 0 [(r0.take c), (r0.drop c), r1, r2], 5, true⟩) :: rowS 0 [(r0.take c), (r0.drop c), r1, r2]) := by
  refine CM7 (by simp) ?_
  have hv := Validate_c [r0, r1, r2] hs
  rw [tabErr_zero.2 hok] at hv
  have c2 := swithin_c 0 0 2
  have c3 := swithin_c c 1 ((r0.length : Int) - 1)
  have hw : (decide ((1 : Int) ≤ c) && decide ((c : Int) ≤ (r0.length : Int) - 1)) = true := by
    rw [decide_eq_true (by omega), decide_eq_true (by omega)]; rfl
  rw [hw] at c3
  have hcm := scopied_m [r0, r1, r2] (by simp) (by simp) (fun j hj => by
    have q1 := hok.row _ (el_mem_of _ j hj)
    have q2 := hs.el j
    refine ⟨?_, by omega⟩
    cases q3 : el [r0, r1, r2] j with
    | nil => exact absurd q3 q1
    | cons a b => simp)
  have hel : el [r0, r1, r2] 0 = r0 ∧ el [r0, r1, r2] 1 = r1 ∧ el [r0, r1, r2] 2 = r2 := by exact ⟨rfl, rfl, rfl⟩
  simp only [hel, rowN, rowM, range_succ', List.range_zero, List.nil_append, List.map_append, List.map_cons, List.map_nil, List.cons_append, List.length_cons, List.length_nil, Nat.zero_add, Nat.reduceAdd] at hcm
  have hlk : r0.length ≤ 100 := hs.row _ (by simp)
  have ka := clone_o (r0.take c) (by rw [List.length_take]; omega)
  have kb := clone_o (r0.drop c) (by rw [List.length_drop]; omega)
  have hmin : min c r0.length = c := by omega
  have hmv := replace_mv 0 3 (by omega) (by omega)
  have hcl : (c : Int) ≤ r0.length := by omega
  have hcn : c ≤ r0.length := by omega
  simp [A7]
  try simp 
  repeat' (first
    | (refine CallX.pure (hv) (by simp) (by simp) ?_; try simp )
    | (refine CallK.intro (hv) (by simp) (by simp) ?_; try simp )
    | (refine CallG.intro (fun _ => hv) (by simp) (by simp) ?_; try simp )
    | ((with_reducible refine PreK.intro ?_ ?_); (next => (first | omega | (intros; first | omega | (refine ⟨by omega, ?_⟩; repeat (first | assumption | constructor)) | assumption))); intro _; try simp )
    | fail)
  refine CondK.ff ?_
  try simp 
  try simp 
  repeat (refine PreK.intro (by first | omega | (intros; first | omega | (refine ⟨by omega, ?_⟩; simp_all; done) | (simp_all; done) | (simp_all; omega))) fun _ => ?_; (try simp ))
  try simp 
  repeat' (first
    | (refine CallX.pure (c2) (by simp) (by simp) ?_; try simp )
    | (refine CallK.intro (c2) (by simp) (by simp) ?_; try simp )
    | (refine CallG.intro (fun _ => c2) (by simp) (by simp) ?_; try simp )
    | ((with_reducible refine PreK.intro ?_ ?_); (next => (first | omega | (intros; first | omega | (refine ⟨by omega, ?_⟩; repeat (first | assumption | constructor)) | assumption))); intro _; try simp )
    | fail)
  refine CondK.ff ?_
  try simp 
  try simp 
  repeat (refine PreK.intro (by first | omega | (intros; first | omega | (refine ⟨by omega, ?_⟩; simp_all; done) | (simp_all; done) | (simp_all; omega))) fun _ => ?_; (try simp ))
  try simp 
  repeat' (first
    | (refine CallX.pure (c3) (by simp) (by simp) ?_; try simp )
    | (refine CallK.intro (c3) (by simp) (by simp) ?_; try simp )
    | (refine CallG.intro (fun _ => c3) (by simp) (by simp) ?_; try simp )
    | ((with_reducible refine PreK.intro ?_ ?_); (next => (first | omega | (intros; first | omega | (refine ⟨by omega, ?_⟩; repeat (first | assumption | constructor)) | assumption))); intro _; try simp )
    | fail)
  refine CondK.ff ?_
  try simp 
  try simp 
  repeat (refine PreK.intro (by first | omega | (intros; first | omega | (refine ⟨by omega, ?_⟩; simp_all; done) | (simp_all; done) | (simp_all; omega))) fun _ => ?_; (try simp ))
  refine CondK.ff ?_
  try simp 
  try simp 
  repeat (refine PreK.intro (by first | omega | (intros; first | omega | (refine ⟨by omega, ?_⟩; simp_all; done) | (simp_all; done) | (simp_all; omega))) fun _ => ?_; (try simp ))
  refine CallX.mem 1000 (by simpa using hcm) (by simp) (by simp) (by simp) ?_
  try simp [hcl, hcn]
  repeat (refine PreK.intro (by first | omega | (intros; first | omega | (refine ⟨by omega, ?_⟩; simp_all; done) | (simp_all; done) | (simp_all; omega))) fun _ => ?_; (try simp [hcl, hcn]))
  refine CallK.own (CallO.weak (by simpa [weakL, weak, weakL_tk] using ka)) (by simp) ?_
  try simp [hcl, hcn, hmin]
  repeat (refine PreK.intro (by first | omega | (intros; first | omega | (refine ⟨by omega, ?_⟩; simp_all; done) | (simp_all; done) | (simp_all; omega))) fun _ => ?_; (try simp [hcl, hcn, hmin]))
  refine CallK.own (by simpa using kb) (by simp) ?_
  try simp [hcl, hcn, hmin]
  repeat (refine PreK.intro (by first | omega | (intros; first | omega | (refine ⟨by omega, ?_⟩; simp_all; done) | (simp_all; done) | (simp_all; omega))) fun _ => ?_; (try simp [hcl, hcn, hmin]))
  refine CallK.moves 0 (b := ⟨1, [.sl 1100 1 0 r0.length, .sl 1101 1 0 r1.length, .sl 1102 1 0 r2.length], 4, true⟩) (b2 := ⟨1, [.sl 46 1 0 c, .sl 53 1 0 (r0.length - c)], 1, true⟩) hmv (by simp) (by simp) (by simp) (by simp) (by simp) (by simp) (by simp) (by simp) (by simp) (by simp) (by simp) (by simp) (by simp) ?_
  try simp [hcl, hcn, hmin]
  repeat (refine PreK.intro (by first | omega | (intros; first | omega | (refine ⟨by omega, ?_⟩; simp_all; done) | (simp_all; done) | (simp_all; omega))) fun _ => ?_; (try simp [hcl, hcn, hmin]))
  refine ⟨[], [(46, 200), (53, 201), (1101, 202), (1102, 203)], ?_⟩
  simp [namS, rowS, movedE, hmin]
theorem split_3_1 (r0 r1 r2 : List Int) (c : Nat) (hs : Sm [r0, r1, r2]) (hok : TabOK [r0, r1, r2]) (h1 : 1 ≤ c) (h2 : c < r1.length) :
    CallM Tryz.prog 7 [tabV [r0, r1, r2], iv 1, iv c] (.tup [.sl 1003 5 0 4, iv 0]) ((1003, some ⟨1, namS 0 [r0, (r1.take c), (r1.drop c), r2], 5, true⟩) :: rowS 0 [r0, (r1.take c), (r1.drop c), r2]) := by
  refine CM7 (by simp) ?_
  have hv := Validate_c [r0, r1, r2] hs
  rw [tabErr_zero.2 hok] at hv
  have c2 := swithin_c 1 0 2
  have c3 := swithin_c c 1 ((r1.length : Int) - 1)
  have hw : (decide ((1 : Int) ≤ c) && decide ((c : Int) ≤ (r1.length : Int) - 1)) = true := by
    rw [decide_eq_true (by omega), decide_eq_true (by omega)]; rfl
  rw [hw] at c3
  have hcm := scopied_m [r0, r1, r2] (by simp) (by simp) (fun j hj => by
    have q1 := hok.row _ (el_mem_of _ j hj)
    have q2 := hs.el j
    refine ⟨?_, by omega⟩
    cases q3 : el [r0, r1, r2] j with
    | nil => exact absurd q3 q1
    | cons a b => simp)
  have hel : el [r0, r1, r2] 0 = r0 ∧ el [r0, r1, r2] 1 = r1 ∧ el [r0, r1, r2] 2 = r2 := by exact ⟨rfl, rfl, rfl⟩
  simp only [hel, rowN, rowM, range_succ', List.range_zero, List.nil_append, List.map_append, List.map_cons, List.map_nil, List.cons_append, List.length_cons, List.length_nil, Nat.zero_add, Nat.reduceAdd] at hcm
  have hlk : r1.length ≤ 100 := hs.row _ (by simp)
  have ka := clone_o (r1.take c) (by rw [List.length_take]; omega)
  have kb := clone_o (r1.drop c) (by rw [List.length_drop]; omega)
  have hmin : min c r1.length = c := by omega
  have hmv := replace_mv 1 3 (by omega) (by omega)
  have hcl : (c : Int) ≤ r1.length := by omega
  have hcn : c ≤ r1.length := by omega
  simp [A7]
  try simp 
  repeat' (first
    | (refine CallX.pure (hv) (by simp) (by simp) ?_; try simp )
    | (refine CallK.intro (hv) (by simp) (by simp) ?_; try simp )
    | (refine CallG.intro (fun _ => hv) (by simp) (by simp) ?_; try simp )
    | ((with_reducible refine PreK.intro ?_ ?_); (next => (first | omega | (intros; first | omega | (refine ⟨by omega, ?_⟩; repeat (first | assumption | constructor)) | assumption))); intro _; try simp )
    | fail)
  refine CondK.ff ?_
  try simp 
  try simp 
  repeat (refine PreK.intro (by first | omega | (intros; first | omega | (refine ⟨by omega, ?_⟩; simp_all; done) | (simp_all; done) | (simp_all; omega))) fun _ => ?_; (try simp ))
  try simp 
  repeat' (first
    | (refine CallX.pure (c2) (by simp) (by simp) ?_; try simp )
    | (refine CallK.intro (c2) (by simp) (by simp) ?_; try simp )
    | (refine CallG.intro (fun _ => c2) (by simp) (by simp) ?_; try simp )
    | ((with_reducible refine PreK.intro ?_ ?_); (next => (first | omega | (intros; first | omega | (refine ⟨by omega, ?_⟩; repeat (first | assumption | constructor)) | assumption))); intro _; try simp )
    | fail)
  refine CondK.ff ?_
  try simp 
  try simp 
  repeat (refine PreK.intro (by first | omega | (intros; first | omega | (refine ⟨by omega, ?_⟩; simp_all; done) | (simp_all; done) | (simp_all; omega))) fun _ => ?_; (try simp ))
  try simp 
  repeat' (first
    | (refine CallX.pure (c3) (by simp) (by simp) ?_; try simp )
    | (refine CallK.intro (c3) (by simp) (by simp) ?_; try simp )
    | (refine CallG.intro (fun _ => c3) (by simp) (by simp) ?_; try simp )
    | ((with_reducible refine PreK.intro ?_ ?_); (next => (first | omega | (intros; first | omega | (refine ⟨by omega, ?_⟩; repeat (first | assumption | constructor)) | assumption))); intro _; try simp )
    | fail)
  refine CondK.ff ?_
  try simp 
  try simp 
  repeat (refine PreK.intro (by first | omega | (intros; first | omega | (refine ⟨by omega, ?_⟩; simp_all; done) | (simp_all; done) | (simp_all; omega))) fun _ => ?_; (try simp ))
  refine CondK.ff ?_
  try simp 
  try simp 
  repeat (refine PreK.intro (by first | omega | (intros; first | omega | (refine ⟨by omega, ?_⟩; simp_all; done) | (simp_all; done) | (simp_all; omega))) fun _ => ?_; (try simp ))
  refine CallX.mem 1000 (by simpa using hcm) (by simp) (by simp) (by simp) ?_
  try simp [hcl, hcn]
  repeat (refine PreK.intro (by first | omega | (intros; first | omega | (refine ⟨by omega, ?_⟩; simp_all; done) | (simp_all; done) | (simp_all; omega))) fun _ => ?_; (try simp [hcl, hcn]))
  refine CallK.own (CallO.weak (by simpa [weakL, weak, weakL_tk] using ka)) (by simp) ?_
  try simp [hcl, hcn, hmin]
  repeat (refine PreK.intro (by first | omega | (intros; first | omega | (refine ⟨by omega, ?_⟩; simp_all; done) | (simp_all; done) | (simp_all; omega))) fun _ => ?_; (try simp [hcl, hcn, hmin]))
  refine CallK.own (by simpa using kb) (by simp) ?_
  try simp [hcl, hcn, hmin]
  repeat (refine PreK.intro (by first | omega | (intros; first | omega | (refine ⟨by omega, ?_⟩; simp_all; done) | (simp_all; done) | (simp_all; omega))) fun _ => ?_; (try simp [hcl, hcn, hmin]))
  refine CallK.moves 1 (b := ⟨1, [.sl 1100 1 0 r0.length, .sl 1101 1 0 r1.length, .sl 1102 1 0 r2.length], 4, true⟩) (b2 := ⟨1, [.sl 46 1 0 c, .sl 53 1 0 (r1.length - c)], 1, true⟩) hmv (by simp) (by simp) (by simp) (by simp) (by simp) (by simp) (by simp) (by simp) (by simp) (by simp) (by simp) (by simp) (by simp) ?_
  try simp [hcl, hcn, hmin]
  repeat (refine PreK.intro (by first | omega | (intros; first | omega | (refine ⟨by omega, ?_⟩; simp_all; done) | (simp_all; done) | (simp_all; omega))) fun _ => ?_; (try simp [hcl, hcn, hmin]))
  refine ⟨[], [(1100, 200), (46, 201), (53, 202), (1102, 203)], ?_⟩
  simp [namS, rowS, movedE, hmin]
theorem split_3_2 (r0 r1 r2 : List Int) (c : Nat) (hs : Sm [r0, r1, r2]) (hok : TabOK [r0, r1, r2]) (h1 : 1 ≤ c) (h2 : c < r2.length) :
    CallM Tryz.prog 7 [tabV [r0, r1, r2], iv 2, iv c] (.tup [.sl 1003 5 0 4, iv 0]) ((1003, some ⟨1, namS 0 [r0, r1, (r2.take c), (r2.drop c)], 5, true⟩) :: rowS 0 [r0, r1, (r2.take c), (r2.drop c)]) := by
  refine CM7 (by simp) ?_
  have hv := Validate_c [r0, r1, r2] hs
  rw [tabErr_zero.2 hok] at hv
  have c2 := swithin_c 2 0 2
  have c3 := swithin_c c 1 ((r2.length : Int) - 1)
  have hw : (decide ((1 : Int) ≤ c) && decide ((c : Int) ≤ (r2.length : Int) - 1)) = true := by
    rw [decide_eq_true (by omega), decide_eq_true (by omega)]; rfl
  rw [hw] at c3
  have hcm := scopied_m [r0, r1, r2] (by simp) (by simp) (fun j hj => by
    have q1 := hok.row _ (el_mem_of _ j hj)
    have q2 := hs.el j
    refine ⟨?_, by omega⟩
    cases q3 : el [r0, r1, r2] j with
    | nil => exact absurd q3 q1
    | cons a b => simp)
  have hel : el [r0, r1, r2] 0 = r0 ∧ el [r0, r1, r2] 1 = r1 ∧ el [r0, r1, r2] 2 = r2 := by exact ⟨rfl, rfl, rfl⟩
  simp only [hel, rowN, rowM, range_succ', List.range_zero, List.nil_append, List.map_append, List.map_cons, List.map_nil, List.cons_append, List.length_cons, List.length_nil, Nat.zero_add, Nat.reduceAdd] at hcm
  have hlk : r2.length ≤ 100 := hs.row _ (by simp)
  have ka := clone_o (r2.take c) (by rw [List.length_take]; omega)
  have kb := clone_o (r2.drop c) (by rw [List.length_drop]; omega)
  have hmin : min c r2.length = c := by omega
  have hmv := replace_mv 2 3 (by omega) (by omega)
  have hcl : (c : Int) ≤ r2.length := by omega
  have hcn : c ≤ r2.length := by omega
  simp [A7]
  try simp 
  repeat' (first
    | (refine CallX.pure (hv) (by simp) (by simp) ?_; try simp )
    | (refine CallK.intro (hv) (by simp) (by simp) ?_; try simp )
    | (refine CallG.intro (fun _ => hv) (by simp) (by simp) ?_; try simp )
    | ((with_reducible refine PreK.intro ?_ ?_); (next => (first | omega | (intros; first | omega | (refine ⟨by omega, ?_⟩; repeat (first | assumption | constructor)) | assumption))); intro _; try simp )
    | fail)
  refine CondK.ff ?_
  try simp 
  try simp 
  repeat (refine PreK.intro (by first | omega | (intros; first | omega | (refine ⟨by omega, ?_⟩; simp_all; done) | (simp_all; done) | (simp_all; omega))) fun _ => ?_; (try simp ))
  try simp 
  repeat' (first
    | (refine CallX.pure (c2) (by simp) (by simp) ?_; try simp )
    | (refine CallK.intro (c2) (by simp) (by simp) ?_; try simp )
    | (refine CallG.intro (fun _ => c2) (by simp) (by simp) ?_; try simp )
    | ((with_reducible refine PreK.intro ?_ ?_); (next => (first | omega | (intros; first | omega | (refine ⟨by omega, ?_⟩; repeat (first | assumption | constructor)) | assumption))); intro _; try simp )
    | fail)
  refine CondK.ff ?_
  try simp 
  try simp 
  repeat (refine PreK.intro (by first | omega | (intros; first | omega | (refine ⟨by omega, ?_⟩; simp_all; done) | (simp_all; done) | (simp_all; omega))) fun _ => ?_; (try simp ))
  try simp 
  repeat' (first
    | (refine CallX.pure (c3) (by simp) (by simp) ?_; try simp )
    | (refine CallK.intro (c3) (by simp) (by simp) ?_; try simp )
    | (refine CallG.intro (fun _ => c3) (by simp) (by simp) ?_; try simp )
    | ((with_reducible refine PreK.intro ?_ ?_); (next => (first | omega | (intros; first | omega | (refine ⟨by omega, ?_⟩; repeat (first | assumption | constructor)) | assumption))); intro _; try simp )
    | fail)
  refine CondK.ff ?_
  try simp 
  try simp 
  repeat (refine PreK.intro (by first | omega | (intros; first | omega | (refine ⟨by omega, ?_⟩; simp_all; done) | (simp_all; done) | (simp_all; omega))) fun _ => ?_; (try simp ))
  refine CondK.ff ?_
  try simp 
  try simp 
  repeat (refine PreK.intro (by first | omega | (intros; first | omega | (refine ⟨by omega, ?_⟩; simp_all; done) | (simp_all; done) | (simp_all; omega))) fun _ => ?_; (try simp ))
  refine CallX.mem 1000 (by simpa using hcm) (by simp) (by simp) (by simp) ?_
  try simp [hcl, hcn]
  repeat (refine PreK.intro (by first | omega | (intros; first | omega | (refine ⟨by omega, ?_⟩; simp_all; done) | (simp_all; done) | (simp_all; omega))) fun _ => ?_; (try simp [hcl, hcn]))
  refine CallK.own (CallO.weak (by simpa [weakL, weak, weakL_tk] using ka)) (by simp) ?_
  try simp [hcl, hcn, hmin]
  repeat (refine PreK.intro (by first | omega | (intros; first | omega | (refine ⟨by omega, ?_⟩; simp_all; done) | (simp_all; done) | (simp_all; omega))) fun _ => ?_; (try simp [hcl, hcn, hmin]))
  refine CallK.own (by simpa using kb) (by simp) ?_
  try simp [hcl, hcn, hmin]
  repeat (refine PreK.intro (by first | omega | (intros; first | omega | (refine ⟨by omega, ?_⟩; simp_all; done) | (simp_all; done) | (simp_all; omega))) fun _ => ?_; (try simp [hcl, hcn, hmin]))
  refine CallK.moves 2 (b := ⟨1, [.sl 1100 1 0 r0.length, .sl 1101 1 0 r1.length, .sl 1102 1 0 r2.length], 4, true⟩) (b2 := ⟨1, [.sl 46 1 0 c, .sl 53 1 0 (r2.length - c)], 1, true⟩) hmv (by simp) (by simp) (by simp) (by simp) (by simp) (by simp) (by simp) (by simp) (by simp) (by simp) (by simp) (by simp) (by simp) ?_
  try simp [hcl, hcn, hmin]
  repeat (refine PreK.intro (by first | omega | (intros; first | omega | (refine ⟨by omega, ?_⟩; simp_all; done) | (simp_all; done) | (simp_all; omega))) fun _ => ?_; (try simp [hcl, hcn, hmin]))
  refine ⟨[], [(1100, 200), (1101, 201), (46, 202), (53, 203)], ?_⟩
  simp [namS, rowS, movedE, hmin]
theorem split_4_0 (r0 r1 r2 r3 : List Int) (c : Nat) (hs : Sm [r0, r1, r2, r3]) (hok : TabOK [r0, r1, r2, r3]) (h1 : 1 ≤ c) (h2 : c < r0.length) :
    CallM Tryz.prog 7 [tabV [r0, r1, r2, r3], iv 0, iv c] (.tup [.sl 1003 6 0 5, iv 0]) ((1003, some ⟨1, namS 0 [(r0.take c), (r0.drop c), r1, r2, r3], 6, true⟩) :: rowS 0 [(r0.take c), (r0.drop c), r1, r2, r3]) := by
  refine CM7 (by simp) ?_
  have hv := Validate_c [r0, r1, r2, r3] hs
  rw [tabErr_zero.2 hok] at hv
  have c2 := swithin_c 0 0 3
  have c3 := swithin_c c 1 ((r0.length : Int) - 1)
  have hw : (decide ((1 : Int) ≤ c) && decide ((c : Int) ≤ (r0.length : Int) - 1)) = true := by
    rw [decide_eq_true (by omega), decide_eq_true (by omega)]; rfl
  rw [hw] at c3
  have hcm := scopied_m [r0, r1, r2, r3] (by simp) (by simp) (fun j hj => by
    have q1 := hok.row _ (el_mem_of _ j hj)
    have q2 := hs.el j
    refine ⟨?_, by omega⟩
    cases q3 : el [r0, r1, r2, r3] j with
    | nil => exact absurd q3 q1
    | cons a b => simp)
  have hel : el [r0, r1, r2, r3] 0 = r0 ∧ el [r0, r1, r2, r3] 1 = r1 ∧ el [r0, r1, r2, r3] 2 = r2 ∧ el [r0, r1, r2, r3] 3 = r3 := by exact ⟨rfl, rfl, rfl, rfl⟩
  simp only [hel, rowN, rowM, range_succ', List.range_zero, List.nil_append, List.map_append, List.map_cons, List.map_nil, List.cons_append, List.length_cons, List.length_nil, Nat.zero_add, Nat.reduceAdd] at hcm
  have hlk : r0.length ≤ 100 := hs.row _ (by simp)
  have ka := clone_o (r0.take c) (by rw [List.length_take]; omega)
  have kb := clone_o (r0.drop c) (by rw [List.length_drop]; omega)
  have hmin : min c r0.length = c := by omega
  have hmv := replace_mv 0 4 (by omega) (by omega)
  have hcl : (c : Int) ≤ r0.length := by omega
  have hcn : c ≤ r0.length := by omega
  simp [A7]
  try simp 
  repeat' (first
    | (refine CallX.pure (hv) (by simp) (by simp) ?_; try simp )
    | (refine CallK.intro (hv) (by simp) (by simp) ?_; try simp )
    | (refine CallG.intro (fun _ => hv) (by simp) (by simp) ?_; try simp )
    | ((with_reducible refine PreK.intro ?_ ?_); (next => (first | omega | (intros; first | omega | (refine ⟨by omega, ?_⟩; repeat (first | assumption | constructor)) | assumption))); intro _; try simp )
    | fail)
  refine CondK.ff ?_
  try simp 
  try simp 
  repeat (refine PreK.intro (by first | omega | (intros; first | omega | (refine ⟨by omega, ?_⟩; simp_all; done) | (simp_all; done) | (simp_all; omega))) fun _ => ?_; (try simp ))
  try simp 
  repeat' (first
    | (refine CallX.pure (c2) (by simp) (by simp) ?_; try simp )
    | (refine CallK.intro (c2) (by simp) (by simp) ?_; try simp )
    | (refine CallG.intro (fun _ => c2) (by simp) (by simp) ?_; try simp )
    | ((with_reducible refine PreK.intro ?_ ?_); (next => (first | omega | (intros; first | omega | (refine ⟨by omega, ?_⟩; repeat (first | assumption | constructor)) | assumption))); intro _; try simp )
    | fail)
  refine CondK.ff ?_
  try simp 
  try simp 
  repeat (refine PreK.intro (by first | omega | (intros; first | omega | (refine ⟨by omega, ?_⟩; simp_all; done) | (simp_all; done) | (simp_all; omega))) fun _ => ?_; (try simp ))
  try simp 
  repeat' (first
    | (refine CallX.pure (c3) (by simp) (by simp) ?_; try simp )
    | (refine CallK.intro (c3) (by simp) (by simp) ?_; try simp )
    | (refine CallG.intro (fun _ => c3) (by simp) (by simp) ?_; try simp )
    | ((with_reducible refine PreK.intro ?_ ?_); (next => (first | omega | (intros; first | omega | (refine ⟨by omega, ?_⟩; repeat (first | assumption | constructor)) | assumption))); intro _; try simp )
    | fail)
  refine CondK.ff ?_
  try simp 
  try simp 
  repeat (refine PreK.intro (by first | omega | (intros; first | omega | (refine ⟨by omega, ?_⟩; simp_all; done) | (simp_all; done) | (simp_all; omega))) fun _ => ?_; (try simp ))
  refine CondK.ff ?_
  try simp 
  try simp 
  repeat (refine PreK.intro (by first | omega | (intros; first | omega | (refine ⟨by omega, ?_⟩; simp_all; done) | (simp_all; done) | (simp_all; omega))) fun _ => ?_; (try simp ))
  refine CallX.mem 1000 (by simpa using hcm) (by simp) (by simp) (by simp) ?_
  try simp [hcl, hcn]
  repeat (refine PreK.intro (by first | omega | (intros; first | omega | (refine ⟨by omega, ?_⟩; simp_all; done) | (simp_all; done) | (simp_all; omega))) fun _ => ?_; (try simp [hcl, hcn]))
  refine CallK.own (CallO.weak (by simpa [weakL, weak, weakL_tk] using ka)) (by simp) ?_
  try simp [hcl, hcn, hmin]
  repeat (refine PreK.intro (by first | omega | (intros; first | omega | (refine ⟨by omega, ?_⟩; simp_all; done) | (simp_all; done) | (simp_all; omega))) fun _ => ?_; (try simp [hcl, hcn, hmin]))
  refine CallK.own (by simpa using kb) (by simp) ?_
  try simp [hcl, hcn, hmin]
  repeat (refine PreK.intro (by first | omega | (intros; first | omega | (refine ⟨by omega, ?_⟩; simp_all; done) | (simp_all; done) | (simp_all; omega))) fun _ => ?_; (try simp [hcl, hcn, hmin]))
  refine CallK.moves 0 (b := ⟨1, [.sl 1100 1 0 r0.length, .sl 1101 1 0 r1.length, .sl 1102 1 0 r2.length, .sl 1103 1 0 r3.length], 5, true⟩) (b2 := ⟨1, [.sl 46 1 0 c, .sl 53 1 0 (r0.length - c)], 1, true⟩) hmv (by simp) (by simp) (by simp) (by simp) (by simp) (by simp) (by simp) (by simp) (by simp) (by simp) (by simp) (by simp) (by simp) ?_
  try simp [hcl, hcn, hmin]
  repeat (refine PreK.intro (by first | omega | (intros; first | omega | (refine ⟨by omega, ?_⟩; simp_all; done) | (simp_all; done) | (simp_all; omega))) fun _ => ?_; (try simp [hcl, hcn, hmin]))
  refine ⟨[], [(46, 200), (53, 201), (1101, 202), (1102, 203), (1103, 204)], ?_⟩
  simp [namS, rowS, movedE, hmin]
theorem split_4_1 (r0 r1 r2 r3 : List Int) (c : Nat) (hs : Sm [r0, r1, r2, r3]) (hok : TabOK [r0, r1, r2, r3]) (h1 : 1 ≤ c) (h2 : c < r1.length) :
    CallM Tryz.prog 7 [tabV [r0, r1, r2, r3], iv 1, iv c] (.tup [.sl 1003 6 0 5, iv 0]) ((1003, some ⟨1, namS 0 [r0, (r1.take c), (r1.drop c), r2, r3], 6, true⟩) :: rowS 0 [r0, (r1.take c), (r1.drop c), r2, r3]) := by
  refine CM7 (by simp) ?_
  have hv := Validate_c [r0, r1, r2, r3] hs
  rw [tabErr_zero.2 hok] at hv
  have c2 := swithin_c 1 0 3
  have c3 := swithin_c c 1 ((r1.length : Int) - 1)
  have hw : (decide ((1 : Int) ≤ c) && decide ((c : Int) ≤ (r1.length : Int) - 1)) = true := by
    rw [decide_eq_true (by omega), decide_eq_true (by omega)]; rfl
  rw [hw] at c3
  have hcm := scopied_m [r0, r1, r2, r3] (by simp) (by simp) (fun j hj => by
    have q1 := hok.row _ (el_mem_of _ j hj)
    have q2 := hs.el j
    refine ⟨?_, by omega⟩
    cases q3 : el [r0, r1, r2, r3] j with
    | nil => exact absurd q3 q1
    | cons a b => simp)
  have hel : el [r0, r1, r2, r3] 0 = r0 ∧ el [r0, r1, r2, r3] 1 = r1 ∧ el [r0, r1, r2, r3] 2 = r2 ∧ el [r0, r1, r2, r3] 3 = r3 := by exact ⟨rfl, rfl, rfl, rfl⟩
  simp only [hel, rowN, rowM, range_succ', List.range_zero, List.nil_append, List.map_append, List.map_cons, List.map_nil, List.cons_append, List.length_cons, List.length_nil, Nat.zero_add, Nat.reduceAdd] at hcm
  have hlk : r1.length ≤ 100 := hs.row _ (by simp)
  have ka := clone_o (r1.take c) (by rw [List.length_take]; omega)
  have kb := clone_o (r1.drop c) (by rw [List.length_drop]; omega)
  have hmin : min c r1.length = c := by omega
  have hmv := replace_mv 1 4 (by omega) (by omega)
  have hcl : (c : Int) ≤ r1.length := by omega
  have hcn : c ≤ r1.length := by omega
  simp [A7]
  try simp 
  repeat' (first
    | (refine CallX.pure (hv) (by simp) (by simp) ?_; try simp )
    | (refine CallK.intro (hv) (by simp) (by simp) ?_; try simp )
    | (refine CallG.intro (fun _ => hv) (by simp) (by simp) ?_; try simp )
    | ((with_reducible refine PreK.intro ?_ ?_); (next => (first | omega | (intros; first | omega | (refine ⟨by omega, ?_⟩; repeat (first | assumption | constructor)) | assumption))); intro _; try simp )
    | fail)
  refine CondK.ff ?_
  try simp 
  try simp 
  repeat (refine PreK.intro (by first | omega | (intros; first | omega | (refine ⟨by omega, ?_⟩; simp_all; done) | (simp_all; done) | (simp_all; omega))) fun _ => ?_; (try simp ))
  try simp 
  repeat' (first
    | (refine CallX.pure (c2) (by simp) (by simp) ?_; try simp )
    | (refine CallK.intro (c2) (by simp) (by simp) ?_; try simp )
    | (refine CallG.intro (fun _ => c2) (by simp) (by simp) ?_; try simp )
    | ((with_reducible refine PreK.intro ?_ ?_); (next => (first | omega | (intros; first | omega | (refine ⟨by omega, ?_⟩; repeat (first | assumption | constructor)) | assumption))); intro _; try simp )
    | fail)
  refine CondK.ff ?_
  try simp 
  try simp 
  repeat (refine PreK.intro (by first | omega | (intros; first | omega | (refine ⟨by omega, ?_⟩; simp_all; done) | (simp_all; done) | (simp_all; omega))) fun _ => ?_; (try simp ))
  try simp 
  repeat' (first
    | (refine CallX.pure (c3) (by simp) (by simp) ?_; try simp )
    | (refine CallK.intro (c3) (by simp) (by simp) ?_; try simp )
    | (refine CallG.intro (fun _ => c3) (by simp) (by simp) ?_; try simp )
    | ((with_reducible refine PreK.intro ?_ ?_); (next => (first | omega | (intros; first | omega | (refine ⟨by omega, ?_⟩; repeat (first | assumption | constructor)) | assumption))); intro _; try simp )
    | fail)
  refine CondK.ff ?_
  try simp 
  try simp 
  repeat (refine PreK.intro (by first | omega | (intros; first | omega | (refine ⟨by omega, ?_⟩; simp_all; done) | (simp_all; done) | (simp_all; omega))) fun _ => ?_; (try simp ))
  refine CondK.ff ?_
  try simp 
  try simp 
  repeat (refine PreK.intro (by first | omega | (intros; first | omega | (refine ⟨by omega, ?_⟩; simp_all; done) | (simp_all; done) | (simp_all; omega))) fun _ => ?_; (try simp ))
  refine CallX.mem 1000 (by simpa using hcm) (by simp) (by simp) (by simp) ?_
  try simp [hcl, hcn]
  repeat (refine PreK.intro (by first | omega | (intros; first | omega | (refine ⟨by omega, ?_⟩; simp_all; done) | (simp_all; done) | (simp_all; omega))) fun _ => ?_; (try simp [hcl, hcn]))
  refine CallK.own (CallO.weak (by simpa [weakL, weak, weakL_tk] using ka)) (by simp) ?_
  try simp [hcl, hcn, hmin]
  repeat (refine PreK.intro (by first | omega | (intros; first | omega | (refine ⟨by omega, ?_⟩; simp_all; done) | (simp_all; done) | (simp_all; omega))) fun _ => ?_; (try simp [hcl, hcn, hmin]))
  refine CallK.own (by simpa using kb) (by simp) ?_
  try simp [hcl, hcn, hmin]
  repeat (refine PreK.intro (by first | omega | (intros; first | omega | (refine ⟨by omega, ?_⟩; simp_all; done) | (simp_all; done) | (simp_all; omega))) fun _ => ?_; (try simp [hcl, hcn, hmin]))
  refine CallK.moves 1 (b := ⟨1, [.sl 1100 1 0 r0.length, .sl 1101 1 0 r1.length, .sl 1102 1 0 r2.length, .sl 1103 1 0 r3.length], 5, true⟩) (b2 := ⟨1, [.sl 46 1 0 c, .sl 53 1 0 (r1.length - c)], 1, true⟩) hmv (by simp) (by simp) (by simp) (by simp) (by simp) (by simp) (by simp) (by simp) (by simp) (by simp) (by simp) (by simp) (by simp) ?_
  try simp [hcl, hcn, hmin]
  repeat (refine PreK.intro (by first | omega | (intros; first | omega | (refine ⟨by omega, ?_⟩; simp_all; done) | (simp_all; done) | (simp_all; omega))) fun _ => ?_; (try simp [hcl, hcn, hmin]))
  refine ⟨[], [(1100, 200), (46, 201), (53, 202), (1102, 203), (1103, 204)], ?_⟩
  simp [namS, rowS, movedE, hmin]
theorem split_4_2 (r0 r1 r2 r3 : List Int) (c : Nat) (hs : Sm [r0, r1, r2, r3]) (hok : TabOK [r0, r1, r2, r3]) (h1 : 1 ≤ c) (h2 : c < r2.length) :
    CallM Tryz.prog 7 [tabV [r0, r1, r2, r3], iv 2, iv c] (.tup [.sl 1003 6 0 5, iv 0]) ((1003, some ⟨1, namS 0 [r0, r1, (r2.take c), (r2.drop c), r3], 6, true⟩) :: rowS 0 [r0, r1, (r2.take c), (r2.drop c), r3]) := by
  refine CM7 (by simp) ?_
  have hv := Validate_c [r0, r1, r2, r3] hs
  rw [tabErr_zero.2 hok] at hv
  have c2 := swithin_c 2 0 3
  have c3 := swithin_c c 1 ((r2.length : Int) - 1)
  have hw : (decide ((1 : Int) ≤ c) && decide ((c : Int) ≤ (r2.length : Int) - 1)) = true := by
    rw [decide_eq_true (by omega), decide_eq_true (by omega)]; rfl
  rw [hw] at c3
  have hcm := scopied_m [r0, r1, r2, r3] (by simp) (by simp) (fun j hj => by
    have q1 := hok.row _ (el_mem_of _ j hj)
    have q2 := hs.el j
    refine ⟨?_, by omega⟩
    cases q3 : el [r0, r1, r2, r3] j with
    | nil => exact absurd q3 q1
    | cons a b => simp)
  have hel : el [r0, r1, r2, r3] 0 = r0 ∧ el [r0, r1, r2, r3] 1 = r1 ∧ el [r0, r1, r2, r3] 2 = r2 ∧ el [r0, r1, r2, r3] 3 = r3 := by exact ⟨rfl, rfl, rfl, rfl⟩
  simp only [hel, rowN, rowM, range_succ', List.range_zero, List.nil_append, List.map_append, List.map_cons, List.map_nil, List.cons_append, List.length_cons, List.length_nil, Nat.zero_add, Nat.reduceAdd] at hcm
  have hlk : r2.length ≤ 100 := hs.row _ (by simp)
  have ka := clone_o (r2.take c) (by rw [List.length_take]; omega)
  have kb := clone_o (r2.drop c) (by rw [List.length_drop]; omega)
  have hmin : min c r2.length = c := by omega
  have hmv := replace_mv 2 4 (by omega) (by omega)
  have hcl : (c : Int) ≤ r2.length := by omega
  have hcn : c ≤ r2.length := by omega
  simp [A7]
  try simp 
  repeat' (first
    | (refine CallX.pure (hv) (by simp) (by simp) ?_; try simp )
    | (refine CallK.intro (hv) (by simp) (by simp) ?_; try simp )
    | (refine CallG.intro (fun _ => hv) (by simp) (by simp) ?_; try simp )
    | ((with_reducible refine PreK.intro ?_ ?_); (next => (first | omega | (intros; first | omega | (refine ⟨by omega, ?_⟩; repeat (first | assumption | constructor)) | assumption))); intro _; try simp )
    | fail)
  refine CondK.ff ?_
  try simp 
  try simp 
  repeat (refine PreK.intro (by first | omega | (intros; first | omega | (refine ⟨by omega, ?_⟩; simp_all; done) | (simp_all; done) | (simp_all; omega))) fun _ => ?_; (try simp ))
  try simp 
  repeat' (first
    | (refine CallX.pure (c2) (by simp) (by simp) ?_; try simp )
    | (refine CallK.intro (c2) (by simp) (by simp) ?_; try simp )
    | (refine CallG.intro (fun _ => c2) (by simp) (by simp) ?_; try simp )
    | ((with_reducible refine PreK.intro ?_ ?_); (next => (first | omega | (intros; first | omega | (refine ⟨by omega, ?_⟩; repeat (first | assumption | constructor)) | assumption))); intro _; try simp )
    | fail)
  refine CondK.ff ?_
  try simp 
  try simp 
  repeat (refine PreK.intro (by first | omega | (intros; first | omega | (refine ⟨by omega, ?_⟩; simp_all; done) | (simp_all; done) | (simp_all; omega))) fun _ => ?_; (try simp ))
  try simp 
  repeat' (first
    | (refine CallX.pure (c3) (by simp) (by simp) ?_; try simp )
    | (refine CallK.intro (c3) (by simp) (by simp) ?_; try simp )
    | (refine CallG.intro (fun _ => c3) (by simp) (by simp) ?_; try simp )
    | ((with_reducible refine PreK.intro ?_ ?_); (next => (first | omega | (intros; first | omega | (refine ⟨by omega, ?_⟩; repeat (first | assumption | constructor)) | assumption))); intro _; try simp )
    | fail)
  refine CondK.ff ?_
  try simp 
  try simp 
  repeat (refine PreK.intro (by first | omega | (intros; first | omega | (refine ⟨by omega, ?_⟩; simp_all; done) | (simp_all; done) | (simp_all; omega))) fun _ => ?_; (try simp ))
  refine CondK.ff ?_
  try simp 
  try simp 
  repeat (refine PreK.intro (by first | omega | (intros; first | omega | (refine ⟨by omega, ?_⟩; simp_all; done) | (simp_all; done) | (simp_all; omega))) fun _ => ?_; (try simp ))
  refine CallX.mem 1000 (by simpa using hcm) (by simp) (by simp) (by simp) ?_
  try simp [hcl, hcn]
  repeat (refine PreK.intro (by first | omega | (intros; first | omega | (refine ⟨by omega, ?_⟩; simp_all; done) | (simp_all; done) | (simp_all; omega))) fun _ => ?_; (try simp [hcl, hcn]))
  refine CallK.own (CallO.weak (by simpa [weakL, weak, weakL_tk] using ka)) (by simp) ?_
  try simp [hcl, hcn, hmin]
  repeat (refine PreK.intro (by first | omega | (intros; first | omega | (refine ⟨by omega, ?_⟩; simp_all; done) | (simp_all; done) | (simp_all; omega))) fun _ => ?_; (try simp [hcl, hcn, hmin]))
  refine CallK.own (by simpa using kb) (by simp) ?_
  try simp [hcl, hcn, hmin]
  repeat (refine PreK.intro (by first | omega | (intros; first | omega | (refine ⟨by omega, ?_⟩; simp_all; done) | (simp_all; done) | (simp_all; omega))) fun _ => ?_; (try simp [hcl, hcn, hmin]))
  refine CallK.moves 2 (b := ⟨1, [.sl 1100 1 0 r0.length, .sl 1101 1 0 r1.length, .sl 1102 1 0 r2.length, .sl 1103 1 0 r3.length], 5, true⟩) (b2 := ⟨1, [.sl 46 1 0 c, .sl 53 1 0 (r2.length - c)], 1, true⟩) hmv (by simp) (by simp) (by simp) (by simp) (by simp) (by simp) (by simp) (by simp) (by simp) (by simp) (by simp) (by simp) (by simp) ?_
  try simp [hcl, hcn, hmin]
  repeat (refine PreK.intro (by first | omega | (intros; first | omega | (refine ⟨by omega, ?_⟩; simp_all; done) | (simp_all; done) | (simp_all; omega))) fun _ => ?_; (try simp [hcl, hcn, hmin]))
  refine ⟨[], [(1100, 200), (1101, 201), (46, 202), (53, 203), (1103, 204)], ?_⟩
  simp [namS, rowS, movedE, hmin]
theorem split_4_3 (r0 r1 r2 r3 : List Int) (c : Nat) (hs : Sm [r0, r1, r2, r3]) (hok : TabOK [r0, r1, r2, r3]) (h1 : 1 ≤ c) (h2 : c < r3.length) :
    CallM Tryz.prog 7 [tabV [r0, r1, r2, r3], iv 3, iv c] (.tup [.sl 1003 6 0 5, iv 0]) ((1003, some ⟨1, namS 0 [r0, r1, r2, (r3.take c), (r3.drop c)], 6, true⟩) :: rowS 0 [r0, r1, r2, (r3.take c), (r3.drop c)]) := by
  refine CM7 (by simp) ?_
  have hv := Validate_c [r0, r1, r2, r3] hs
  rw [tabErr_zero.2 hok] at hv
  have c2 := swithin_c 3 0 3
  have c3 := swithin_c c 1 ((r3.length : Int) - 1)
  have hw : (decide ((1 : Int) ≤ c) && decide ((c : Int) ≤ (r3.length : Int) - 1)) = true := by
    rw [decide_eq_true (by omega), decide_eq_true (by omega)]; rfl
  rw [hw] at c3
  have hcm := scopied_m [r0, r1, r2, r3] (by simp) (by simp) (fun j hj => by
    have q1 := hok.row _ (el_mem_of _ j hj)
    have q2 := hs.el j
    refine ⟨?_, by omega⟩
    cases q3 : el [r0, r1, r2, r3] j with
    | nil => exact absurd q3 q1
    | cons a b => simp)
  have hel : el [r0, r1, r2, r3] 0 = r0 ∧ el [r0, r1, r2, r3] 1 = r1 ∧ el [r0, r1, r2, r3] 2 = r2 ∧ el [r0, r1, r2, r3] 3 = r3 := by exact ⟨rfl, rfl, rfl, rfl⟩
  simp only [hel, rowN, rowM, range_succ', List.range_zero, List.nil_append, List.map_append, List.map_cons, List.map_nil, List.cons_append, List.length_cons, List.length_nil, Nat.zero_add, Nat.reduceAdd] at hcm
  have hlk : r3.length ≤ 100 := hs.row _ (by simp)
  have ka := clone_o (r3.take c) (by rw [List.length_take]; omega)
  have kb := clone_o (r3.drop c) (by rw [List.length_drop]; omega)
  have hmin : min c r3.length = c := by omega
  have hmv := replace_mv 3 4 (by omega) (by omega)
  have hcl : (c : Int) ≤ r3.length := by omega
  have hcn : c ≤ r3.length := by omega
  simp [A7]
  try simp 
  repeat' (first
    | (refine CallX.pure (hv) (by simp) (by simp) ?_; try simp )
    | (refine CallK.intro (hv) (by simp) (by simp) ?_; try simp )
    | (refine CallG.intro (fun _ => hv) (by simp) (by simp) ?_; try simp )
    | ((with_reducible refine PreK.intro ?_ ?_); (next => (first | omega | (intros; first | omega | (refine ⟨by omega, ?_⟩; repeat (first | assumption | constructor)) | assumption))); intro _; try simp )
    | fail)
  refine CondK.ff ?_
  try simp 
  try simp 
  repeat (refine PreK.intro (by first | omega | (intros; first | omega | (refine ⟨by omega, ?_⟩; simp_all; done) | (simp_all; done) | (simp_all; omega))) fun _ => ?_; (try simp ))
  try simp 
  repeat' (first
    | (refine CallX.pure (c2) (by simp) (by simp) ?_; try simp )
    | (refine CallK.intro (c2) (by simp) (by simp) ?_; try simp )
    | (refine CallG.intro (fun _ => c2) (by simp) (by simp) ?_; try simp )
    | ((with_reducible refine PreK.intro ?_ ?_); (next => (first | omega | (intros; first | omega | (refine ⟨by omega, ?_⟩; repeat (first | assumption | constructor)) | assumption))); intro _; try simp )
    | fail)
  refine CondK.ff ?_
  try simp 
  try simp 
  repeat (refine PreK.intro (by first | omega | (intros; first | omega | (refine ⟨by omega, ?_⟩; simp_all; done) | (simp_all; done) | (simp_all; omega))) fun _ => ?_; (try simp ))
  try simp 
  repeat' (first
    | (refine CallX.pure (c3) (by simp) (by simp) ?_; try simp )
    | (refine CallK.intro (c3) (by simp) (by simp) ?_; try simp )
    | (refine CallG.intro (fun _ => c3) (by simp) (by simp) ?_; try simp )
    | ((with_reducible refine PreK.intro ?_ ?_); (next => (first | omega | (intros; first | omega | (refine ⟨by omega, ?_⟩; repeat (first | assumption | constructor)) | assumption))); intro _; try simp )
    | fail)
  refine CondK.ff ?_
  try simp 
  try simp 
  repeat (refine PreK.intro (by first | omega | (intros; first | omega | (refine ⟨by omega, ?_⟩; simp_all; done) | (simp_all; done) | (simp_all; omega))) fun _ => ?_; (try simp ))
  refine CondK.ff ?_
  try simp 
  try simp 
  repeat (refine PreK.intro (by first | omega | (intros; first | omega | (refine ⟨by omega, ?_⟩; simp_all; done) | (simp_all; done) | (simp_all; omega))) fun _ => ?_; (try simp ))
  refine CallX.mem 1000 (by simpa using hcm) (by simp) (by simp) (by simp) ?_
  try simp [hcl, hcn]
  repeat (refine PreK.intro (by first | omega | (intros; first | omega | (refine ⟨by omega, ?_⟩; simp_all; done) | (simp_all; done) | (simp_all; omega))) fun _ => ?_; (try simp [hcl, hcn]))
  refine CallK.own (CallO.weak (by simpa [weakL, weak, weakL_tk] using ka)) (by simp) ?_
  try simp [hcl, hcn, hmin]
  repeat (refine PreK.intro (by first | omega | (intros; first | omega | (refine ⟨by omega, ?_⟩; simp_all; done) | (simp_all; done) | (simp_all; omega))) fun _ => ?_; (try simp [hcl, hcn, hmin]))
  refine CallK.own (by simpa using kb) (by simp) ?_
  try simp [hcl, hcn, hmin]
  repeat (refine PreK.intro (by first | omega | (intros; first | omega | (refine ⟨by omega, ?_⟩; simp_all; done) | (simp_all; done) | (simp_all; omega))) fun _ => ?_; (try simp [hcl, hcn, hmin]))
  refine CallK.moves 3 (b := ⟨1, [.sl 1100 1 0 r0.length, .sl 1101 1 0 r1.length, .sl 1102 1 0 r2.length, .sl 1103 1 0 r3.length], 5, true⟩) (b2 := ⟨1, [.sl 46 1 0 c, .sl 53 1 0 (r3.length - c)], 1, true⟩) hmv (by simp) (by simp) (by simp) (by simp) (by simp) (by simp) (by simp) (by simp) (by simp) (by simp) (by simp) (by simp) (by simp) ?_
  try simp [hcl, hcn, hmin]
  repeat (refine PreK.intro (by first | omega | (intros; first | omega | (refine ⟨by omega, ?_⟩; simp_all; done) | (simp_all; done) | (simp_all; omega))) fun _ => ?_; (try simp [hcl, hcn, hmin]))
  refine ⟨[], [(1100, 200), (1101, 201), (1102, 202), (46, 203), (53, 204)], ?_⟩
  simp [namS, rowS, movedE, hmin]
theorem split_5_0 (r0 r1 r2 r3 r4 : List Int) (c : Nat) (hs : Sm [r0, r1, r2, r3, r4]) (hok : TabOK [r0, r1, r2, r3, r4]) (h1 : 1 ≤ c) (h2 : c < r0.length) :
    CallM Tryz.prog 7 [tabV [r0, r1, r2, r3, r4], iv 0, iv c] (.tup [.sl 1003 7 0 6, iv 0]) ((1003, some ⟨1, namS 0 [(r0.take c), (r0.drop c), r1, r2, r3, r4], 7, true⟩) :: rowS 0 [(r0.take c), (r0.drop c), r1, r2, r3, r4]) := by
  refine CM7 (by simp) ?_
  have hv := Validate_c [r0, r1, r2, r3, r4] hs
  rw [tabErr_zero.2 hok] at hv
  have c2 := swithin_c 0 0 4
  have c3 := swithin_c c 1 ((r0.length : Int) - 1)
  have hw : (decide ((1 : Int) ≤ c) && decide ((c : Int) ≤ (r0.length : Int) - 1)) = true := by
    rw [decide_eq_true (by omega), decide_eq_true (by omega)]; rfl
  rw [hw] at c3
  have hcm := scopied_m [r0, r1, r2, r3, r4] (by simp) (by simp) (fun j hj => by
    have q1 := hok.row _ (el_mem_of _ j hj)
    have q2 := hs.el j
    refine ⟨?_, by omega⟩
    cases q3 : el [r0, r1, r2, r3, r4] j with
    | nil => exact absurd q3 q1
    | cons a b => simp)
  have hel : el [r0, r1, r2, r3, r4] 0 = r0 ∧ el [r0, r1, r2, r3, r4] 1 = r1 ∧ el [r0, r1, r2, r3, r4] 2 = r2 ∧ el [r0, r1, r2, r3, r4] 3 = r3 ∧ el [r0, r1, r2, r3, r4] 4 = r4 := by exact ⟨rfl, rfl, rfl, rfl, rfl⟩
  simp only [hel, rowN, rowM, range_succ', List.range_zero, List.nil_append, List.map_append, List.map_cons, List.map_nil, List.cons_append, List.length_cons, List.length_nil, Nat.zero_add, Nat.reduceAdd] at hcm
  have hlk : r0.length ≤ 100 := hs.row _ (by simp)
  have ka := clone_o (r0.take c) (by rw [List.length_take]; omega)
  have kb := clone_o (r0.drop c) (by rw [List.length_drop]; omega)
  have hmin : min c r0.length = c := by omega
  have hmv := replace_mv 0 5 (by omega) (by omega)
  have hcl : (c : Int) ≤ r0.length := by omega
  have hcn : c ≤ r0.length := by omega
  simp [A7]
  try simp 
  repeat' (first
    | (refine CallX.pure (hv) (by simp) (by simp) ?_; try simp )
    | (refine CallK.intro (hv) (by simp) (by simp) ?_; try simp )
    | (refine CallG.intro (fun _ => hv) (by simp) (by simp) ?_; try simp )
    | ((with_reducible refine PreK.intro ?_ ?_); (next => (first | omega | (intros; first | omega | (refine ⟨by omega, ?_⟩; repeat (first | assumption | constructor)) | assumption))); intro _; try simp )
    | fail)
  refine CondK.ff ?_
  try simp 
  try simp 
  repeat (refine PreK.intro (by first | omega | (intros; first | omega | (refine ⟨by omega, ?_⟩; simp_all; done) | (simp_all; done) | (simp_all; omega))) fun _ => ?_; (try simp ))
  try simp 
  repeat' (first
    | (refine CallX.pure (c2) (by simp) (by simp) ?_; try simp )
    | (refine CallK.intro (c2) (by simp) (by simp) ?_; try simp )
    | (refine CallG.intro (fun _ => c2) (by simp) (by simp) ?_; try simp )
    | ((with_reducible refine PreK.intro ?_ ?_); (next => (first | omega | (intros; first | omega | (refine ⟨by omega, ?_⟩; repeat (first | assumption | constructor)) | assumption))); intro _; try simp )
    | fail)
  refine CondK.ff ?_
  try simp 
  try simp 
  repeat (refine PreK.intro (by first | omega | (intros; first | omega | (refine ⟨by omega, ?_⟩; simp_all; done) | (simp_all; done) | (simp_all; omega))) fun _ => ?_; (try simp ))
  try simp 
  repeat' (first
    | (refine CallX.pure (c3) (by simp) (by simp) ?_; try simp )
    | (refine CallK.intro (c3) (by simp) (by simp) ?_; try simp )
    | (refine CallG.intro (fun _ => c3) (by simp) (by simp) ?_; try simp )
    | ((with_reducible refine PreK.intro ?_ ?_); (next => (first | omega | (intros; first | omega | (refine ⟨by omega, ?_⟩; repeat (first | assumption | constructor)) | assumption))); intro _; try simp )
    | fail)
  refine CondK.ff ?_
  try simp 
  try simp 
  repeat (refine PreK.intro (by first | omega | (intros; first | omega | (refine ⟨by omega, ?_⟩; simp_all; done) | (simp_all; done) | (simp_all; omega))) fun _ => ?_; (try simp ))
  refine CondK.ff ?_
  try simp 
  try simp 
  repeat (refine PreK.intro (by first | omega | (intros; first | omega | (refine ⟨by omega, ?_⟩; simp_all; done) | (simp_all; done) | (simp_all; omega))) fun _ => ?_; (try simp ))
  refine CallX.mem 1000 (by simpa using hcm) (by simp) (by simp) (by simp) ?_
  try simp [hcl, hcn]
  repeat (refine PreK.intro (by first | omega | (intros; first | omega | (refine ⟨by omega, ?_⟩; simp_all; done) | (simp_all; done) | (simp_all; omega))) fun _ => ?_; (try simp [hcl, hcn]))
  refine CallK.own (CallO.weak (by simpa [weakL, weak, weakL_tk] using ka)) (by simp) ?_
  try simp [hcl, hcn, hmin]
  repeat (refine PreK.intro (by first | omega | (intros; first | omega | (refine ⟨by omega, ?_⟩; simp_all; done) | (simp_all; done) | (simp_all; omega))) fun _ => ?_; (try simp [hcl, hcn, hmin]))
  refine CallK.own (by simpa using kb) (by simp) ?_
  try simp [hcl, hcn, hmin]
  repeat (refine PreK.intro (by first | omega | (intros; first | omega | (refine ⟨by omega, ?_⟩; simp_all; done) | (simp_all; done) | (simp_all; omega))) fun _ => ?_; (try simp [hcl, hcn, hmin]))
  refine CallK.moves 0 (b := ⟨1, [.sl 1100 1 0 r0.length, .sl 1101 1 0 r1.length, .sl 1102 1 0 r2.length, .sl 1103 1 0 r3.length, .sl 1104 1 0 r4.length], 6, true⟩) (b2 := ⟨1, [.sl 46 1 0 c, .sl 53 1 0 (r0.length - c)], 1, true⟩) hmv (by simp) (by simp) (by simp) (by simp) (by simp) (by simp) (by simp) (by simp) (by simp) (by simp) (by simp) (by simp) (by simp) ?_
  try simp [hcl, hcn, hmin]
  repeat (refine PreK.intro (by first | omega | (intros; first | omega | (refine ⟨by omega, ?_⟩; simp_all; done) | (simp_all; done) | (simp_all; omega))) fun _ => ?_; (try simp [hcl, hcn, hmin]))
  refine ⟨[], [(46, 200), (53, 201), (1101, 202), (1102, 203), (1103, 204), (1104, 205)], ?_⟩
  simp [namS, rowS, movedE, hmin]
theorem split_5_1 (r0 r1 r2 r3 r4 : List Int) (c : Nat) (hs : Sm [r0, r1, r2, r3, r4]) (hok : TabOK [r0, r1, r2, r3, r4]) (h1 : 1 ≤ c) (h2 : c < r1.length) :
    CallM Tryz.prog 7 [tabV [r0, r1, r2, r3, r4], iv 1, iv c] (.tup [.sl 1003 7 0 6, iv 0]) ((1003, some ⟨1, namS 0 [r0, (r1.take c), (r1.drop c), r2, r3, r4], 7, true⟩) :: rowS 0 [r0, (r1.take c), (r1.drop c), r2, r3, r4]) := by
  refine CM7 (by simp) ?_
  have hv := Validate_c [r0, r1, r2, r3, r4] hs
  rw [tabErr_zero.2 hok] at hv
  have c2 := swithin_c 1 0 4
  have c3 := swithin_c c 1 ((r1.length : Int) - 1)
  have hw : (decide ((1 : Int) ≤ c) && decide ((c : Int) ≤ (r1.length : Int) - 1)) = true := by
    rw [decide_eq_true (by omega), decide_eq_true (by omega)]; rfl
  rw [hw] at c3
  have hcm := scopied_m [r0, r1, r2, r3, r4] (by simp) (by simp) (fun j hj => by
    have q1 := hok.row _ (el_mem_of _ j hj)
    have q2 := hs.el j
    refine ⟨?_, by omega⟩
    cases q3 : el [r0, r1, r2, r3, r4] j with
    | nil => exact absurd q3 q1
    | cons a b => simp)
  have hel : el [r0, r1, r2, r3, r4] 0 = r0 ∧ el [r0, r1, r2, r3, r4] 1 = r1 ∧ el [r0, r1, r2, r3, r4] 2 = r2 ∧ el [r0, r1, r2, r3, r4] 3 = r3 ∧ el [r0, r1, r2, r3, r4] 4 = r4 := by exact ⟨rfl, rfl, rfl, rfl, rfl⟩
  simp only [hel, rowN, rowM, range_succ', List.range_zero, List.nil_append, List.map_append, List.map_cons, List.map_nil, List.cons_append, List.length_cons, List.length_nil, Nat.zero_add, Nat.reduceAdd] at hcm
  have hlk : r1.length ≤ 100 := hs.row _ (by simp)
  have ka := clone_o (r1.take c) (by rw [List.length_take]; omega)
  have kb := clone_o (r1.drop c) (by rw [List.length_drop]; omega)
  have hmin : min c r1.length = c := by omega
  have hmv := replace_mv 1 5 (by omega) (by omega)
  have hcl : (c : Int) ≤ r1.length := by omega
  have hcn : c ≤ r1.length := by omega
  simp [A7]
  try simp 
  repeat' (first
    | (refine CallX.pure (hv) (by simp) (by simp) ?_; try simp )
    | (refine CallK.intro (hv) (by simp) (by simp) ?_; try simp )
    | (refine CallG.intro (fun _ => hv) (by simp) (by simp) ?_; try simp )
    | ((with_reducible refine PreK.intro ?_ ?_); (next => (first | omega | (intros; first | omega | (refine ⟨by omega, ?_⟩; repeat (first | assumption | constructor)) | assumption))); intro _; try simp )
    | fail)
  refine CondK.ff ?_
  try simp 
  try simp 
  repeat (refine PreK.intro (by first | omega | (intros; first | omega | (refine ⟨by omega, ?_⟩; simp_all; done) | (simp_all; done) | (simp_all; omega))) fun _ => ?_; (try simp ))
  try simp 
  repeat' (first
    | (refine CallX.pure (c2) (by simp) (by simp) ?_; try simp )
    | (refine CallK.intro (c2) (by simp) (by simp) ?_; try simp )
    | (refine CallG.intro (fun _ => c2) (by simp) (by simp) ?_; try simp )
    | ((with_reducible refine PreK.intro ?_ ?_); (next => (first | omega | (intros; first | omega | (refine ⟨by omega, ?_⟩; repeat (first | assumption | constructor)) | assumption))); intro _; try simp )
    | fail)
  refine CondK.ff ?_
  try simp 
  try simp 
  repeat (refine PreK.intro (by first | omega | (intros; first | omega | (refine ⟨by omega, ?_⟩; simp_all; done) | (simp_all; done) | (simp_all; omega))) fun _ => ?_; (try simp ))
  try simp 
  repeat' (first
    | (refine CallX.pure (c3) (by simp) (by simp) ?_; try simp )
    | (refine CallK.intro (c3) (by simp) (by simp) ?_; try simp )
    | (refine CallG.intro (fun _ => c3) (by simp) (by simp) ?_; try simp )
    | ((with_reducible refine PreK.intro ?_ ?_); (next => (first | omega | (intros; first | omega | (refine ⟨by omega, ?_⟩; repeat (first | assumption | constructor)) | assumption))); intro _; try simp )
    | fail)
  refine CondK.ff ?_
  try simp 
  try simp 
  repeat (refine PreK.intro (by first | omega | (intros; first | omega | (refine ⟨by omega, ?_⟩; simp_all; done) | (simp_all; done) | (simp_all; omega))) fun _ => ?_; (try simp ))
  refine CondK.ff ?_
  try simp 
  try simp 
  repeat (refine PreK.intro (by first | omega | (intros; first | omega | (refine ⟨by omega, ?_⟩; simp_all; done) | (simp_all; done) | (simp_all; omega))) fun _ => ?_; (try simp ))
  refine CallX.mem 1000 (by simpa using hcm) (by simp) (by simp) (by simp) ?_
  try simp [hcl, hcn]
  repeat (refine PreK.intro (by first | omega | (intros; first | omega | (refine ⟨by omega, ?_⟩; simp_all; done) | (simp_all; done) | (simp_all; omega))) fun _ => ?_; (try simp [hcl, hcn]))
  refine CallK.own (CallO.weak (by simpa [weakL, weak, weakL_tk] using ka)) (by simp) ?_
  try simp [hcl, hcn, hmin]
  repeat (refine PreK.intro (by first | omega | (intros; first | omega | (refine ⟨by omega, ?_⟩; simp_all; done) | (simp_all; done) | (simp_all; omega))) fun _ => ?_; (try simp [hcl, hcn, hmin]))
  refine CallK.own (by simpa using kb) (by simp) ?_
  try simp [hcl, hcn, hmin]
  repeat (refine PreK.intro (by first | omega | (intros; first | omega | (refine ⟨by omega, ?_⟩; simp_all; done) | (simp_all; done) | (simp_all; omega))) fun _ => ?_; (try simp [hcl, hcn, hmin]))
  refine CallK.moves 1 (b := ⟨1, [.sl 1100 1 0 r0.length, .sl 1101 1 0 r1.length, .sl 1102 1 0 r2.length, .sl 1103 1 0 r3.length, .sl 1104 1 0 r4.length], 6, true⟩) (b2 := ⟨1, [.sl 46 1 0 c, .sl 53 1 0 (r1.length - c)], 1, true⟩) hmv (by simp) (by simp) (by simp) (by simp) (by simp) (by simp) (by simp) (by simp) (by simp) (by simp) (by simp) (by simp) (by simp) ?_
  try simp [hcl, hcn, hmin]
  repeat (refine PreK.intro (by first | omega | (intros; first | omega | (refine ⟨by omega, ?_⟩; simp_all; done) | (simp_all; done) | (simp_all; omega))) fun _ => ?_; (try simp [hcl, hcn, hmin]))
  refine ⟨[], [(1100, 200), (46, 201), (53, 202), (1102, 203), (1103, 204), (1104, 205)], ?_⟩
  simp [namS, rowS, movedE, hmin]
theorem split_5_2 (r0 r1 r2 r3 r4 : List Int) (c : Nat) (hs : Sm [r0, r1, r2, r3, r4]) (hok : TabOK [r0, r1, r2, r3, r4]) (h1 : 1 ≤ c) (h2 : c < r2.length) :
    CallM Tryz.prog 7 [tabV [r0, r1, r2, r3, r4], iv 2, iv c] (.tup [.sl 1003 7 0 6, iv 0]) ((1003, some ⟨1, namS 0 [r0, r1, (r2.take c), (r2.drop c), r3, r4], 7, true⟩) :: rowS 0 [r0, r1, (r2.take c), (r2.drop c), r3, r4]) := by
  refine CM7 (by simp) ?_
  have hv := Validate_c [r0, r1, r2, r3, r4] hs
  rw [tabErr_zero.2 hok] at hv
  have c2 := swithin_c 2 0 4
  have c3 := swithin_c c 1 ((r2.length : Int) - 1)
  have hw : (decide ((1 : Int) ≤ c) && decide ((c : Int) ≤ (r2.length : Int) - 1)) = true := by
    rw [decide_eq_true (by omega), decide_eq_true (by omega)]; rfl
  rw [hw] at c3
  have hcm := scopied_m [r0, r1, r2, r3, r4] (by simp) (by simp) (fun j hj => by
    have q1 := hok.row _ (el_mem_of _ j hj)
    have q2 := hs.el j
    refine ⟨?_, by omega⟩
    cases q3 : el [r0, r1, r2, r3, r4] j with
    | nil => exact absurd q3 q1
    | cons a b => simp)
  have hel : el [r0, r1, r2, r3, r4] 0 = r0 ∧ el [r0, r1, r2, r3, r4] 1 = r1 ∧ el [r0, r1, r2, r3, r4] 2 = r2 ∧ el [r0, r1, r2, r3, r4] 3 = r3 ∧ el [r0, r1, r2, r3, r4] 4 = r4 := by exact ⟨rfl, rfl, rfl, rfl, rfl⟩
  simp only [hel, rowN, rowM, range_succ', List.range_zero, List.nil_append, List.map_append, List.map_cons, List.map_nil, List.cons_append, List.length_cons, List.length_nil, Nat.zero_add, Nat.reduceAdd] at hcm
  have hlk : r2.length ≤ 100 := hs.row _ (by simp)
  have ka := clone_o (r2.take c) (by rw [List.length_take]; omega)
  have kb := clone_o (r2.drop c) (by rw [List.length_drop]; omega)
  have hmin : min c r2.length = c := by omega
  have hmv := replace_mv 2 5 (by omega) (by omega)
  have hcl : (c : Int) ≤ r2.length := by omega
  have hcn : c ≤ r2.length := by omega
  simp [A7]
  try simp 
  repeat' (first
    | (refine CallX.pure (hv) (by simp) (by simp) ?_; try simp )
    | (refine CallK.intro (hv) (by simp) (by simp) ?_; try simp )
    | (refine CallG.intro (fun _ => hv) (by simp) (by simp) ?_; try simp )
    | ((with_reducible refine PreK.intro ?_ ?_); (next => (first | omega | (intros; first | omega | (refine ⟨by omega, ?_⟩; repeat (first | assumption | constructor)) | assumption))); intro _; try simp )
    | fail)
  refine CondK.ff ?_
  try simp 
  try simp 
  repeat (refine PreK.intro (by first | omega | (intros; first | omega | (refine ⟨by omega, ?_⟩; simp_all; done) | (simp_all; done) | (simp_all; omega))) fun _ => ?_; (try simp ))
  try simp 
  repeat' (first
    | (refine CallX.pure (c2) (by simp) (by simp) ?_; try simp )
    | (refine CallK.intro (c2) (by simp) (by simp) ?_; try simp )
    | (refine CallG.intro (fun _ => c2) (by simp) (by simp) ?_; try simp )
    | ((with_reducible refine PreK.intro ?_ ?_); (next => (first | omega | (intros; first | omega | (refine ⟨by omega, ?_⟩; repeat (first | assumption | constructor)) | assumption))); intro _; try simp )
    | fail)
  refine CondK.ff ?_
  try simp 
  try simp 
  repeat (refine PreK.intro (by first | omega | (intros; first | omega | (refine ⟨by omega, ?_⟩; simp_all; done) | (simp_all; done) | (simp_all; omega))) fun _ => ?_; (try simp ))
  try simp 
  repeat' (first
    | (refine CallX.pure (c3) (by simp) (by simp) ?_; try simp )
    | (refine CallK.intro (c3) (by simp) (by simp) ?_; try simp )
    | (refine CallG.intro (fun _ => c3) (by simp) (by simp) ?_; try simp )
    | ((with_reducible refine PreK.intro ?_ ?_); (next => (first | omega | (intros; first | omega | (refine ⟨by omega, ?_⟩; repeat (first | assumption | constructor)) | assumption))); intro _; try simp )
    | fail)
  refine CondK.ff ?_
  try simp 
  try simp 
  repeat (refine PreK.intro (by first | omega | (intros; first | omega | (refine ⟨by omega, ?_⟩; simp_all; done) | (simp_all; done) | (simp_all; omega))) fun _ => ?_; (try simp ))
  refine CondK.ff ?_
  try simp 
  try simp 
  repeat (refine PreK.intro (by first | omega | (intros; first | omega | (refine ⟨by omega, ?_⟩; simp_all; done) | (simp_all; done) | (simp_all; omega))) fun _ => ?_; (try simp ))
  refine CallX.mem 1000 (by simpa using hcm) (by simp) (by simp) (by simp) ?_
  try simp [hcl, hcn]
  repeat (refine PreK.intro (by first | omega | (intros; first | omega | (refine ⟨by omega, ?_⟩; simp_all; done) | (simp_all; done) | (simp_all; omega))) fun _ => ?_; (try simp [hcl, hcn]))
  refine CallK.own (CallO.weak (by simpa [weakL, weak, weakL_tk] using ka)) (by simp) ?_
  try simp [hcl, hcn, hmin]
  repeat (refine PreK.intro (by first | omega | (intros; first | omega | (refine ⟨by omega, ?_⟩; simp_all; done) | (simp_all; done) | (simp_all; omega))) fun _ => ?_; (try simp [hcl, hcn, hmin]))
  refine CallK.own (by simpa using kb) (by simp) ?_
  try simp [hcl, hcn, hmin]
  repeat (refine PreK.intro (by first | omega | (intros; first | omega | (refine ⟨by omega, ?_⟩; simp_all; done) | (simp_all; done) | (simp_all; omega))) fun _ => ?_; (try simp [hcl, hcn, hmin]))
  refine CallK.moves 2 (b := ⟨1, [.sl 1100 1 0 r0.length, .sl 1101 1 0 r1.length, .sl 1102 1 0 r2.length, .sl 1103 1 0 r3.length, .sl 1104 1 0 r4.length], 6, true⟩) (b2 := ⟨1, [.sl 46 1 0 c, .sl 53 1 0 (r2.length - c)], 1, true⟩) hmv (by simp) (by simp) (by simp) (by simp) (by simp) (by simp) (by simp) (by simp) (by simp) (by simp) (by simp) (by simp) (by simp) ?_
  try simp [hcl, hcn, hmin]
  repeat (refine PreK.intro (by first | omega | (intros; first | omega | (refine ⟨by omega, ?_⟩; simp_all; done) | (simp_all; done) | (simp_all; omega))) fun _ => ?_; (try simp [hcl, hcn, hmin]))
  refine ⟨[], [(1100, 200), (1101, 201), (46, 202), (53, 203), (1103, 204), (1104, 205)], ?_⟩
  simp [namS, rowS, movedE, hmin]
theorem split_5_3 (r0 r1 r2 r3 r4 : List Int) (c : Nat) (hs : Sm [r0, r1, r2, r3, r4]) (hok : TabOK [r0, r1, r2, r3, r4]) (h1 : 1 ≤ c) (h2 : c < r3.length) :
    CallM Tryz.prog 7 [tabV [r0, r1, r2, r3, r4], iv 3, iv c] (.tup [.sl 1003 7 0 6, iv 0]) ((1003, some ⟨1, namS 0 [r0, r1, r2, (r3.take c), (r3.drop c), r4], 7, true⟩) :: rowS 0 [r0, r1, r2, (r3.take c), (r3.drop c), r4]) := by
  refine CM7 (by simp) ?_
  have hv := Validate_c [r0, r1, r2, r3, r4] hs
  rw [tabErr_zero.2 hok] at hv
  have c2 := swithin_c 3 0 4
  have c3 := swithin_c c 1 ((r3.length : Int) - 1)
  have hw : (decide ((1 : Int) ≤ c) && decide ((c : Int) ≤ (r3.length : Int) - 1)) = true := by
    rw [decide_eq_true (by omega), decide_eq_true (by omega)]; rfl
  rw [hw] at c3
  have hcm := scopied_m [r0, r1, r2, r3, r4] (by simp) (by simp) (fun j hj => by
    have q1 := hok.row _ (el_mem_of _ j hj)
    have q2 := hs.el j
    refine ⟨?_, by omega⟩
    cases q3 : el [r0, r1, r2, r3, r4] j with
    | nil => exact absurd q3 q1
    | cons a b => simp)
  have hel : el [r0, r1, r2, r3, r4] 0 = r0 ∧ el [r0, r1, r2, r3, r4] 1 = r1 ∧ el [r0, r1, r2, r3, r4] 2 = r2 ∧ el [r0, r1, r2, r3, r4] 3 = r3 ∧ el [r0, r1, r2, r3, r4] 4 = r4 := by exact ⟨rfl, rfl, rfl, rfl, rfl⟩
  simp only [hel, rowN, rowM, range_succ', List.range_zero, List.nil_append, List.map_append, List.map_cons, List.map_nil, List.cons_append, List.length_cons, List.length_nil, Nat.zero_add, Nat.reduceAdd] at hcm
  have hlk : r3.length ≤ 100 := hs.row _ (by simp)
  have ka := clone_o (r3.take c) (by rw [List.length_take]; omega)
  have kb := clone_o (r3.drop c) (by rw [List.length_drop]; omega)
  have hmin : min c r3.length = c := by omega
  have hmv := replace_mv 3 5 (by omega) (by omega)
  have hcl : (c : Int) ≤ r3.length := by omega
  have hcn : c ≤ r3.length := by omega
  simp [A7]
  try simp 
  repeat' (first
    | (refine CallX.pure (hv) (by simp) (by simp) ?_; try simp )
    | (refine CallK.intro (hv) (by simp) (by simp) ?_; try simp )
    | (refine CallG.intro (fun _ => hv) (by simp) (by simp) ?_; try simp )
    | ((with_reducible refine PreK.intro ?_ ?_); (next => (first | omega | (intros; first | omega | (refine ⟨by omega, ?_⟩; repeat (first | assumption | constructor)) | assumption))); intro _; try simp )
    | fail)
  refine CondK.ff ?_
  try simp 
  try simp 
  repeat (refine PreK.intro (by first | omega | (intros; first | omega | (refine ⟨by omega, ?_⟩; simp_all; done) | (simp_all; done) | (simp_all; omega))) fun _ => ?_; (try simp ))
  try simp 
  repeat' (first
    | (refine CallX.pure (c2) (by simp) (by simp) ?_; try simp )
    | (refine CallK.intro (c2) (by simp) (by simp) ?_; try simp )
    | (refine CallG.intro (fun _ => c2) (by simp) (by simp) ?_; try simp )
    | ((with_reducible refine PreK.intro ?_ ?_); (next => (first | omega | (intros; first | omega | (refine ⟨by omega, ?_⟩; repeat (first | assumption | constructor)) | assumption))); intro _; try simp )
    | fail)
  refine CondK.ff ?_
  try simp 
  try simp 
  repeat (refine PreK.intro (by first | omega | (intros; first | omega | (refine ⟨by omega, ?_⟩; simp_all; done) | (simp_all; done) | (simp_all; omega))) fun _ => ?_; (try simp ))
  try simp 
  repeat' (first
    | (refine CallX.pure (c3) (by simp) (by simp) ?_; try simp )
    | (refine CallK.intro (c3) (by simp) (by simp) ?_; try simp )
    | (refine CallG.intro (fun _ => c3) (by simp) (by simp) ?_; try simp )
    | ((with_reducible refine PreK.intro ?_ ?_); (next => (first | omega | (intros; first | omega | (refine ⟨by omega, ?_⟩; repeat (first | assumption | constructor)) | assumption))); intro _; try simp )
    | fail)
  refine CondK.ff ?_
  try simp 
  try simp 
  repeat (refine PreK.intro (by first | omega | (intros; first | omega | (refine ⟨by omega, ?_⟩; simp_all; done) | (simp_all; done) | (simp_all; omega))) fun _ => ?_; (try simp ))
  refine CondK.ff ?_
  try simp 
  try simp 
  repeat (refine PreK.intro (by first | omega | (intros; first | omega | (refine ⟨by omega, ?_⟩; simp_all; done) | (simp_all; done) | (simp_all; omega))) fun _ => ?_; (try simp ))
  refine CallX.mem 1000 (by simpa using hcm) (by simp) (by simp) (by simp) ?_
  try simp [hcl, hcn]
  repeat (refine PreK.intro (by first | omega | (intros; first | omega | (refine ⟨by omega, ?_⟩; simp_all; done) | (simp_all; done) | (simp_all; omega))) fun _ => ?_; (try simp [hcl, hcn]))
  refine CallK.own (CallO.weak (by simpa [weakL, weak, weakL_tk] using ka)) (by simp) ?_
  try simp [hcl, hcn, hmin]
  repeat (refine PreK.intro (by first | omega | (intros; first | omega | (refine ⟨by omega, ?_⟩; simp_all; done) | (simp_all; done) | (simp_all; omega))) fun _ => ?_; (try simp [hcl, hcn, hmin]))
  refine CallK.own (by simpa using kb) (by simp) ?_
  try simp [hcl, hcn, hmin]
  repeat (refine PreK.intro (by first | omega | (intros; first | omega | (refine ⟨by omega, ?_⟩; simp_all; done) | (simp_all; done) | (simp_all; omega))) fun _ => ?_; (try simp [hcl, hcn, hmin]))
  refine CallK.moves 3 (b := ⟨1, [.sl 1100 1 0 r0.length, .sl 1101 1 0 r1.length, .sl 1102 1 0 r2.length, .sl 1103 1 0 r3.length, .sl 1104 1 0 r4.length], 6, true⟩) (b2 := ⟨1, [.sl 46 1 0 c, .sl 53 1 0 (r3.length - c)], 1, true⟩) hmv (by simp) (by simp) (by simp) (by simp) (by simp) (by simp) (by simp) (by simp) (by simp) (by simp) (by simp) (by simp) (by simp) ?_
  try simp [hcl, hcn, hmin]
  repeat (refine PreK.intro (by first | omega | (intros; first | omega | (refine ⟨by omega, ?_⟩; simp_all; done) | (simp_all; done) | (simp_all; omega))) fun _ => ?_; (try simp [hcl, hcn, hmin]))
  refine ⟨[], [(1100, 200), (1101, 201), (1102, 202), (46, 203), (53, 204), (1104, 205)], ?_⟩
  simp [namS, rowS, movedE, hmin]
theorem split_5_4 (r0 r1 r2 r3 r4 : List Int) (c : Nat) (hs : Sm [r0, r1, r2, r3, r4]) (hok : TabOK [r0, r1, r2, r3, r4]) (h1 : 1 ≤ c) (h2 : c < r4.length) :
    CallM Tryz.prog 7 [tabV [r0, r1, r2, r3, r4], iv 4, iv c] (.tup [.sl 1003 7 0 6, iv 0]) ((1003, some ⟨1, namS 0 [r0, r1, r2, r3, (r4.take c), (r4.drop c)], 7, true⟩) :: rowS 0 [r0, r1, r2, r3, (r4.take c), (r4.drop c)]) := by
  refine CM7 (by simp) ?_
  have hv := Validate_c [r0, r1, r2, r3, r4] hs
  rw [tabErr_zero.2 hok] at hv
  have c2 := swithin_c 4 0 4
  have c3 := swithin_c c 1 ((r4.length : Int) - 1)
  have hw : (decide ((1 : Int) ≤ c) && decide ((c : Int) ≤ (r4.length : Int) - 1)) = true := by
    rw [decide_eq_true (by omega), decide_eq_true (by omega)]; rfl
  rw [hw] at c3
  have hcm := scopied_m [r0, r1, r2, r3, r4] (by simp) (by simp) (fun j hj => by
    have q1 := hok.row _ (el_mem_of _ j hj)
    have q2 := hs.el j
    refine ⟨?_, by omega⟩
    cases q3 : el [r0, r1, r2, r3, r4] j with
    | nil => exact absurd q3 q1
    | cons a b => simp)
  have hel : el [r0, r1, r2, r3, r4] 0 = r0 ∧ el [r0, r1, r2, r3, r4] 1 = r1 ∧ el [r0, r1, r2, r3, r4] 2 = r2 ∧ el [r0, r1, r2, r3, r4] 3 = r3 ∧ el [r0, r1, r2, r3, r4] 4 = r4 := by exact ⟨rfl, rfl, rfl, rfl, rfl⟩
  simp only [hel, rowN, rowM, range_succ', List.range_zero, List.nil_append, List.map_append, List.map_cons, List.map_nil, List.cons_append, List.length_cons, List.length_nil, Nat.zero_add, Nat.reduceAdd] at hcm
  have hlk : r4.length ≤ 100 := hs.row _ (by simp)
  have ka := clone_o (r4.take c) (by rw [List.length_take]; omega)
  have kb := clone_o (r4.drop c) (by rw [List.length_drop]; omega)
  have hmin : min c r4.length = c := by omega
  have hmv := replace_mv 4 5 (by omega) (by omega)
  have hcl : (c : Int) ≤ r4.length := by omega
  have hcn : c ≤ r4.length := by omega
  simp [A7]
  try simp 
  repeat' (first
    | (refine CallX.pure (hv) (by simp) (by simp) ?_; try simp )
    | (refine CallK.intro (hv) (by simp) (by simp) ?_; try simp )
    | (refine CallG.intro (fun _ => hv) (by simp) (by simp) ?_; try simp )
    | ((with_reducible refine PreK.intro ?_ ?_); (next => (first | omega | (intros; first | omega | (refine ⟨by omega, ?_⟩; repeat (first | assumption | constructor)) | assumption))); intro _; try simp )
    | fail)
  refine CondK.ff ?_
  try simp 
  try simp 
  repeat (refine PreK.intro (by first | omega | (intros; first | omega | (refine ⟨by omega, ?_⟩; simp_all; done) | (simp_all; done) | (simp_all; omega))) fun _ => ?_; (try simp ))
  try simp 
  repeat' (first
    | (refine CallX.pure (c2) (by simp) (by simp) ?_; try simp )
    | (refine CallK.intro (c2) (by simp) (by simp) ?_; try simp )
    | (refine CallG.intro (fun _ => c2) (by simp) (by simp) ?_; try simp )
    | ((with_reducible refine PreK.intro ?_ ?_); (next => (first | omega | (intros; first | omega | (refine ⟨by omega, ?_⟩; repeat (first | assumption | constructor)) | assumption))); intro _; try simp )
    | fail)
  refine CondK.ff ?_
  try simp 
  try simp 
  repeat (refine PreK.intro (by first | omega | (intros; first | omega | (refine ⟨by omega, ?_⟩; simp_all; done) | (simp_all; done) | (simp_all; omega))) fun _ => ?_; (try simp ))
  try simp 
  repeat' (first
    | (refine CallX.pure (c3) (by simp) (by simp) ?_; try simp )
    | (refine CallK.intro (c3) (by simp) (by simp) ?_; try simp )
    | (refine CallG.intro (fun _ => c3) (by simp) (by simp) ?_; try simp )
    | ((with_reducible refine PreK.intro ?_ ?_); (next => (first | omega | (intros; first | omega | (refine ⟨by omega, ?_⟩; repeat (first | assumption | constructor)) | assumption))); intro _; try simp )
    | fail)
  refine CondK.ff ?_
  try simp 
  try simp 
  repeat (refine PreK.intro (by first | omega | (intros; first | omega | (refine ⟨by omega, ?_⟩; simp_all; done) | (simp_all; done) | (simp_all; omega))) fun _ => ?_; (try simp ))
  refine CondK.ff ?_
  try simp 
  try simp 
  repeat (refine PreK.intro (by first | omega | (intros; first | omega | (refine ⟨by omega, ?_⟩; simp_all; done) | (simp_all; done) | (simp_all; omega))) fun _ => ?_; (try simp ))
  refine CallX.mem 1000 (by simpa using hcm) (by simp) (by simp) (by simp) ?_
  try simp [hcl, hcn]
  repeat (refine PreK.intro (by first | omega | (intros; first | omega | (refine ⟨by omega, ?_⟩; simp_all; done) | (simp_all; done) | (simp_all; omega))) fun _ => ?_; (try simp [hcl, hcn]))
  refine CallK.own (CallO.weak (by simpa [weakL, weak, weakL_tk] using ka)) (by simp) ?_
  try simp [hcl, hcn, hmin]
  repeat (refine PreK.intro (by first | omega | (intros; first | omega | (refine ⟨by omega, ?_⟩; simp_all; done) | (simp_all; done) | (simp_all; omega))) fun _ => ?_; (try simp [hcl, hcn, hmin]))
  refine CallK.own (by simpa using kb) (by simp) ?_
  try simp [hcl, hcn, hmin]
  repeat (refine PreK.intro (by first | omega | (intros; first | omega | (refine ⟨by omega, ?_⟩; simp_all; done) | (simp_all; done) | (simp_all; omega))) fun _ => ?_; (try simp [hcl, hcn, hmin]))
  refine CallK.moves 4 (b := ⟨1, [.sl 1100 1 0 r0.length, .sl 1101 1 0 r1.length, .sl 1102 1 0 r2.length, .sl 1103 1 0 r3.length, .sl 1104 1 0 r4.length], 6, true⟩) (b2 := ⟨1, [.sl 46 1 0 c, .sl 53 1 0 (r4.length - c)], 1, true⟩) hmv (by simp) (by simp) (by simp) (by simp) (by simp) (by simp) (by simp) (by simp) (by simp) (by simp) (by simp) (by simp) (by simp) ?_
  try simp [hcl, hcn, hmin]
  repeat (refine PreK.intro (by first | omega | (intros; first | omega | (refine ⟨by omega, ?_⟩; simp_all; done) | (simp_all; done) | (simp_all; omega))) fun _ => ?_; (try simp [hcl, hcn, hmin]))
  refine ⟨[], [(1100, 200), (1101, 201), (1102, 202), (1103, 203), (46, 204), (53, 205)], ?_⟩
  simp [namS, rowS, movedE, hmin]
theorem Split_m (t : List (List Int)) (k c : Nat) (hs : Sm t) (hok : TabOK t) (hk : k < t.length) (hl : t.length < 6) (h1 : 1 ≤ c) (h2 : c < (el t k).length) :
    CallM Tryz.prog 7 [tabV t, iv k, iv c] (.tup [.sl 1003 (t.length + 2) 0 (t.length + 1), iv 0]) ((1003, some ⟨1, namS 0 (splitM t k c), t.length + 2, true⟩) :: rowS 0 (splitM t k c)) := by
  match t, hs, hok, hk, hl, h2 with
  | [], _, _, hk, _, _ => simp at hk
  | [r0], hs, hok, hk, hl, h2 =>
    have hk' : k = 0 := by simp only [List.length_cons, List.length_nil] at hk; omega
    rcases hk' with rfl
    · exact split_1_0 r0 c hs hok h1 h2
  | [r0, r1], hs, hok, hk, hl, h2 =>
    have hk' : k = 0 ∨ k = 1 := by simp only [List.length_cons, List.length_nil] at hk; omega
    rcases hk' with rfl | rfl
    · exact split_2_0 r0 r1 c hs hok h1 h2
    · exact split_2_1 r0 r1 c hs hok h1 h2
  | [r0, r1, r2], hs, hok, hk, hl, h2 =>
    have hk' : k = 0 ∨ k = 1 ∨ k = 2 := by simp only [List.length_cons, List.length_nil] at hk; omega
    rcases hk' with rfl | rfl | rfl
    · exact split_3_0 r0 r1 r2 c hs hok h1 h2
    · exact split_3_1 r0 r1 r2 c hs hok h1 h2
    · exact split_3_2 r0 r1 r2 c hs hok h1 h2
  | [r0, r1, r2, r3], hs, hok, hk, hl, h2 =>
    have hk' : k = 0 ∨ k = 1 ∨ k = 2 ∨ k = 3 := by simp only [List.length_cons, List.length_nil] at hk; omega
    rcases hk' with rfl | rfl | rfl | rfl
    · exact split_4_0 r0 r1 r2 r3 c hs hok h1 h2
    · exact split_4_1 r0 r1 r2 r3 c hs hok h1 h2
    · exact split_4_2 r0 r1 r2 r3 c hs hok h1 h2
    · exact split_4_3 r0 r1 r2 r3 c hs hok h1 h2
  | [r0, r1, r2, r3, r4], hs, hok, hk, hl, h2 =>
    have hk' : k = 0 ∨ k = 1 ∨ k = 2 ∨ k = 3 ∨ k = 4 := by simp only [List.length_cons, List.length_nil] at hk; omega
    rcases hk' with rfl | rfl | rfl | rfl | rfl
    · exact split_5_0 r0 r1 r2 r3 r4 c hs hok h1 h2
    · exact split_5_1 r0 r1 r2 r3 r4 c hs hok h1 h2
    · exact split_5_2 r0 r1 r2 r3 r4 c hs hok h1 h2
    · exact split_5_3 r0 r1 r2 r3 r4 c hs hok h1 h2
    · exact split_5_4 r0 r1 r2 r3 r4 c hs hok h1 h2
  | _ :: _ :: _ :: _ :: _ :: _ :: _, _, _, _, hl, _ => simp at hl; omega
def SplitR (t : List (List Int)) (k c : Int) : List (List Int) × Int :=
  if tabErr t ≠ 0 then ([], tabErr t) else if (decide (0 ≤ k) && decide (k ≤ (t.length : Int) - 1)) = false then ([], 4) else if (decide (1 ≤ c) && decide (c ≤ ((el t k.toNat).length : Int) - 1)) = false then ([], 1) else
    if t.length = 6 then ([], 3) else (splitM t k.toNat c.toNat, 0)
theorem SplitR_ok {t : List (List Int)} {k c : Int} (h : (SplitR t k c).2 = 0) : TabOK t ∧ ∃ n m : Nat, k = n ∧ c = m ∧ n < t.length ∧ t.length < 6 ∧ 1 ≤ m ∧ m < (el t n).length ∧ SplitR t k c = (splitM t n m, 0) := by
  by_cases h1 : tabErr t = 0
  · have hok := tabErr_zero.1 h1
    refine ⟨hok, ?_⟩
    have hnum := hok.num
    unfold SplitR at h ⊢
    rw [if_neg (by simpa using h1)] at h ⊢
    cases h2 : (decide (0 ≤ k) && decide (k ≤ (t.length : Int) - 1)) with
    | false => rw [h2, if_pos rfl] at h; cases h
    | true =>
      rw [h2, if_neg (by decide)] at h
      simp only [Bool.and_eq_true, decide_eq_true_eq] at h2
      obtain ⟨n, rfl⟩ : ∃ n : Nat, k = (n : Int) := ⟨k.toNat, by omega⟩
      rw [Int.toNat_natCast] at h ⊢
      cases h3 : (decide (1 ≤ c) && decide (c ≤ ((el t n).length : Int) - 1)) with
      | false => rw [h3, if_pos rfl] at h; cases h
      | true =>
        rw [h3, if_neg (by decide)] at h
        simp only [Bool.and_eq_true, decide_eq_true_eq] at h3
        obtain ⟨m, rfl⟩ : ∃ m : Nat, c = (m : Int) := ⟨c.toNat, by omega⟩
        by_cases h4 : t.length = 6
        · rw [if_pos h4] at h; cases h
        · refine ⟨n, m, rfl, rfl, by omega, by omega, by omega, by omega, ?_⟩
          rw [if_neg (by decide), if_neg (by decide), if_neg h4, Int.toNat_natCast]
  · unfold SplitR at h
    rw [if_pos h1] at h
    exact absurd h h1
theorem Split_e (t : List (List Int)) (k c : Int) (hs : Sm t) (he : ¬ (SplitR t k c).2 = 0) : SplitR t k c = ([], (SplitR t k c).2) ∧ CallP Tryz.prog 7 [tabV t, iv k, iv c] (.tup [tabV [], iv (SplitR t k c).2]) := by
  have hv := Validate_c t hs
  by_cases h1 : tabErr t = 0
  · have hok := tabErr_zero.1 h1
    have hnum := hok.num
    rw [h1] at hv
    have c2 := swithin_c k 0 ((t.length : Int) - 1)
    cases h2 : (decide (0 ≤ k) && decide (k ≤ (t.length : Int) - 1)) with
    | false =>
      have e : SplitR t k c = ([], 4) := by unfold SplitR; rw [if_neg (by simpa using h1), h2, if_pos rfl]
      rw [e]
      refine ⟨rfl, ?_⟩
      rw [h2] at c2
      refine C7 (by simp) ?_
      simp [A7]
      try simp 
      repeat' (first
        | (refine CallX.pure (hv) (by simp) (by simp) ?_; try simp )
        | (refine CallK.intro (hv) (by simp) (by simp) ?_; try simp )
        | (refine CallG.intro (fun _ => hv) (by simp) (by simp) ?_; try simp )
        | ((with_reducible refine PreK.intro ?_ ?_); (next => (first | omega | (intros; first | omega | (refine ⟨by omega, ?_⟩; repeat (first | assumption | constructor)) | assumption))); intro _; try simp )
        | fail)
      refine CondK.ff ?_
      try simp 
      try simp 
      repeat (refine PreK.intro (by first | omega | (intros; first | omega | (refine ⟨by omega, ?_⟩; simp_all; done) | (simp_all; done) | (simp_all; omega))) fun _ => ?_; (try simp ))
      try simp 
      repeat' (first
        | (refine CallX.pure (c2) (by simp) (by simp) ?_; try simp )
        | (refine CallK.intro (c2) (by simp) (by simp) ?_; try simp )
        | (refine CallG.intro (fun _ => c2) (by simp) (by simp) ?_; try simp )
        | ((with_reducible refine PreK.intro ?_ ?_); (next => (first | omega | (intros; first | omega | (refine ⟨by omega, ?_⟩; repeat (first | assumption | constructor)) | assumption))); intro _; try simp )
        | fail)
      refine CondK.tt ?_
      try simp 
      try simp 
      repeat (refine PreK.intro (by first | omega | (intros; first | omega | (refine ⟨by omega, ?_⟩; simp_all; done) | (simp_all; done) | (simp_all; omega))) fun _ => ?_; (try simp ))
    | true =>
      rw [h2] at c2
      simp only [Bool.and_eq_true, decide_eq_true_eq] at h2
      obtain ⟨n, rfl⟩ : ∃ n : Nat, k = (n : Int) := ⟨k.toNat, by omega⟩
      have hn : n < t.length := by omega
      have hn' : (n : Int) < t.length := by omega
      have hln := hs.el n
      have c3 := swithin_c c 1 (((el t n).length : Int) - 1)
      cases h3 : (decide (1 ≤ c) && decide (c ≤ ((el t n).length : Int) - 1)) with
      | false =>
        have e : SplitR t n c = ([], 1) := by
          unfold SplitR
          rw [if_neg (by simpa using h1), if_neg (by simp; omega), Int.toNat_natCast, h3, if_pos rfl]
        rw [e]
        refine ⟨rfl, ?_⟩
        rw [h3] at c3
        refine C7 (by simp) ?_
        simp [A7]
        try simp 
        repeat' (first
          | (refine CallX.pure (hv) (by simp) (by simp) ?_; try simp )
          | (refine CallK.intro (hv) (by simp) (by simp) ?_; try simp )
          | (refine CallG.intro (fun _ => hv) (by simp) (by simp) ?_; try simp )
          | ((with_reducible refine PreK.intro ?_ ?_); (next => (first | omega | (intros; first | omega | (refine ⟨by omega, ?_⟩; repeat (first | assumption | constructor)) | assumption))); intro _; try simp )
          | fail)
        refine CondK.ff ?_
        try simp 
        try simp 
        repeat (refine PreK.intro (by first | omega | (intros; first | omega | (refine ⟨by omega, ?_⟩; simp_all; done) | (simp_all; done) | (simp_all; omega))) fun _ => ?_; (try simp ))
        try simp 
        repeat' (first
          | (refine CallX.pure (c2) (by simp) (by simp) ?_; try simp )
          | (refine CallK.intro (c2) (by simp) (by simp) ?_; try simp )
          | (refine CallG.intro (fun _ => c2) (by simp) (by simp) ?_; try simp )
          | ((with_reducible refine PreK.intro ?_ ?_); (next => (first | omega | (intros; first | omega | (refine ⟨by omega, ?_⟩; repeat (first | assumption | constructor)) | assumption))); intro _; try simp )
          | fail)
        refine CondK.ff ?_
        try simp 
        try simp [hn, hn']
        repeat (refine PreK.intro (by first | omega | (intros; first | omega | (refine ⟨by omega, ?_⟩; simp_all; done) | (simp_all; done) | (simp_all; omega))) fun _ => ?_; (try simp [hn, hn']))
        try simp [hn, hn']
        repeat' (first
          | (refine CallX.pure (c3) (by simp) (by simp) ?_; try simp [hn, hn'])
          | (refine CallK.intro (c3) (by simp) (by simp) ?_; try simp [hn, hn'])
          | (refine CallG.intro (fun _ => c3) (by simp) (by simp) ?_; try simp [hn, hn'])
          | ((with_reducible refine PreK.intro ?_ ?_); (next => (first | omega | (intros; first | omega | (refine ⟨by omega, ?_⟩; repeat (first | assumption | constructor)) | assumption))); intro _; try simp [hn, hn'])
          | fail)
        refine CondK.tt ?_
        try simp 
        try simp 
        repeat (refine PreK.intro (by first | omega | (intros; first | omega | (refine ⟨by omega, ?_⟩; simp_all; done) | (simp_all; done) | (simp_all; omega))) fun _ => ?_; (try simp ))
      | true =>
        rw [h3] at c3
        by_cases h4 : t.length = 6
        · have e : SplitR t n c = ([], 3) := by
            unfold SplitR
            rw [if_neg (by simpa using h1), if_neg (by simp; omega), Int.toNat_natCast, h3, if_neg (by decide), if_pos h4]
          rw [e]
          refine ⟨rfl, ?_⟩
          have h4' : (t.length : Int) = 6 := by omega
          refine C7 (by simp) ?_
          simp [A7]
          try simp 
          repeat' (first
            | (refine CallX.pure (hv) (by simp) (by simp) ?_; try simp )
            | (refine CallK.intro (hv) (by simp) (by simp) ?_; try simp )
            | (refine CallG.intro (fun _ => hv) (by simp) (by simp) ?_; try simp )
            | ((with_reducible refine PreK.intro ?_ ?_); (next => (first | omega | (intros; first | omega | (refine ⟨by omega, ?_⟩; repeat (first | assumption | constructor)) | assumption))); intro _; try simp )
            | fail)
          refine CondK.ff ?_
          try simp 
          try simp 
          repeat (refine PreK.intro (by first | omega | (intros; first | omega | (refine ⟨by omega, ?_⟩; simp_all; done) | (simp_all; done) | (simp_all; omega))) fun _ => ?_; (try simp ))
          try simp 
          repeat' (first
            | (refine CallX.pure (c2) (by simp) (by simp) ?_; try simp )
            | (refine CallK.intro (c2) (by simp) (by simp) ?_; try simp )
            | (refine CallG.intro (fun _ => c2) (by simp) (by simp) ?_; try simp )
            | ((with_reducible refine PreK.intro ?_ ?_); (next => (first | omega | (intros; first | omega | (refine ⟨by omega, ?_⟩; repeat (first | assumption | constructor)) | assumption))); intro _; try simp )
            | fail)
          refine CondK.ff ?_
          try simp 
          try simp [hn, hn']
          repeat (refine PreK.intro (by first | omega | (intros; first | omega | (refine ⟨by omega, ?_⟩; simp_all; done) | (simp_all; done) | (simp_all; omega))) fun _ => ?_; (try simp [hn, hn']))
          try simp [hn, hn']
          repeat' (first
            | (refine CallX.pure (c3) (by simp) (by simp) ?_; try simp [hn, hn'])
            | (refine CallK.intro (c3) (by simp) (by simp) ?_; try simp [hn, hn'])
            | (refine CallG.intro (fun _ => c3) (by simp) (by simp) ?_; try simp [hn, hn'])
            | ((with_reducible refine PreK.intro ?_ ?_); (next => (first | omega | (intros; first | omega | (refine ⟨by omega, ?_⟩; repeat (first | assumption | constructor)) | assumption))); intro _; try simp [hn, hn'])
            | fail)
          refine CondK.ff ?_
          try simp 
          try simp [h4, h4']
          repeat (refine PreK.intro (by first | omega | (intros; first | omega | (refine ⟨by omega, ?_⟩; simp_all; done) | (simp_all; done) | (simp_all; omega))) fun _ => ?_; (try simp [h4, h4']))
          refine CondK.tt ?_
          try simp 
          try simp 
          repeat (refine PreK.intro (by first | omega | (intros; first | omega | (refine ⟨by omega, ?_⟩; simp_all; done) | (simp_all; done) | (simp_all; omega))) fun _ => ?_; (try simp ))
        · exfalso
          apply he
          unfold SplitR
          rw [if_neg (by simpa using h1), if_neg (by simp; omega), Int.toNat_natCast, h3, if_neg (by decide), if_neg h4]
  · have e : SplitR t k c = ([], tabErr t) := by unfold SplitR; rw [if_pos h1]
    rw [e]
    refine ⟨rfl, ?_⟩
    refine C7 (by simp) ?_
    simp [A7]
    try simp [h1]
    repeat' (first
      | (refine CallX.pure (hv) (by simp) (by simp) ?_; try simp [h1])
      | (refine CallK.intro (hv) (by simp) (by simp) ?_; try simp [h1])
      | (refine CallG.intro (fun _ => hv) (by simp) (by simp) ?_; try simp [h1])
      | ((with_reducible refine PreK.intro ?_ ?_); (next => (first | omega | (intros; first | omega | (refine ⟨by omega, ?_⟩; repeat (first | assumption | constructor)) | assumption))); intro _; try simp [h1])
      | fail)
    refine CondK.tt ?_
    try simp 
    try simp [h1]
    repeat (refine PreK.intro (by first | omega | (intros; first | omega | (refine ⟨by omega, ?_⟩; simp_all; done) | (simp_all; done) | (simp_all; omega))) fun _ => ?_; (try simp [h1]))
end Go.Proofs.YtphkchjhghdhiaaGreat
end
