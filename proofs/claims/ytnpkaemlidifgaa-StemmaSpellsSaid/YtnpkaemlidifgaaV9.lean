/- Part 9 of the proof: the value layer and the contracts of the functions that the statement reaches; proved without conditions beyond those each theorem states. -/
import Derived.Test.YtnpkaemlidifgaaV7
import Derived.Test.YtnpkaemlidifgaaV8
set_option linter.unusedSimpArgs false
set_option linter.unusedVariables false

section
/- Contracts: the statement StemmaSpells. (written by mkspell3.py) -/
namespace Go.Proofs.Ytnpkaemlidifgaa
open Go.Abs Go
set_option maxRecDepth 20000
set_option maxHeartbeats 8000000
attribute [local irreducible] PreK CondK CallK CallG CallX LoopK
/- PURSE -/
attribute [local simp] avsEq avEq akind teq vkind vEq

theorem conflicts_o (t : List (List Int)) (hr : Rds t) : CallO Try.prog 79 [rdsV t] 2 ((confsM t).map pairV) := by
  refine CO79 (by simp) ?_
  have hn := hr.num
  have e0 : 0 < t.length := hr.pos
  have hw : wid t ≤ 6 := hr.w6
  have hwd : (el t 0).length = wid t := rfl
  have hcl := confs_len t hw
  generalize hR : confsM t = R at hcl
  unfold confsM at hR
  simp [A79]
  repeat (refine PreK.intro (by first | omega | (intros; first | omega | (refine ⟨by omega, ?_⟩; simp_all; done) | (simp_all; done) | (simp_all; omega))) fun _ => ?_; (try simp [e0, hwd]))
  refine LoopK.by (ι := Nat × Nat × List (Nat × Nat)) (fun x => ⟨[(10, iv x.1), (9, iv (wid t)), (0, rdsV t), (3, .sl 3 x.2.1 0 x.2.2.length)], [(3, some ⟨2, x.2.2.map pairV, x.2.1, false⟩)]⟩) (fun x => wid t - x.1)
    (fun x => x.1 ≤ wid t ∧ x.2.2 ++ confsG t (wid t) x.1 (wid t - x.1) = R) (0, 1, []) ⟨Nat.zero_le _, by simpa using hR⟩ (by simp) ?_
  intro ⟨p, v, acc⟩ Q' ⟨hi, hc⟩ hq he hr'
  dsimp only at hi hc
  try simp 
  refine CondK.intro (fun h1 => ?_) (fun h1 => ?_)
  · simp at h1
    rw [show wid t - p = (wid t - (p + 1)) + 1 by omega, confsG] at hc
    repeat (refine PreK.intro (by first | omega | (intros; first | omega | (refine ⟨by omega, ?_⟩; simp_all; done) | (simp_all; done) | (simp_all; omega))) fun _ => ?_; (try simp ))
    refine LoopK.by (ι := Nat × Nat × List (Nat × Nat)) (fun x => ⟨[(5, iv x.1), (4, iv p), (10, iv p), (9, iv (wid t)), (0, rdsV t), (3, .sl 3 x.2.1 0 x.2.2.length)], [(3, some ⟨2, x.2.2.map pairV, x.2.1, false⟩)]⟩) (fun x => wid t - x.1)
      (fun x => p < x.1 ∧ x.1 ≤ wid t ∧ x.2.2 ++ (confsF t p x.1 (wid t - x.1) ++ confsG t (wid t) (p + 1) (wid t - (p + 1))) = R) (p + 1, v, acc) ⟨by dsimp only; omega, by dsimp only; omega, hc⟩ (by simp) ?_
    intro ⟨q, v2, acc2⟩ Q2 ⟨hpq, hj, hc2⟩ hq2 he2 hr2
    dsimp only at hpq hj hc2
    have hcl2 := congrArg List.length hc2
    simp only [List.length_append] at hcl2
    try simp 
    repeat (refine PreK.intro (by first | omega | (intros; first | omega | (refine ⟨by omega, ?_⟩; simp_all; done) | (simp_all; done) | (simp_all; omega))) fun _ => ?_; (try simp [e0, hwd]))
    refine CondK.intro (fun h2 => ?_) (fun h2 => ?_)
    · simp at h2
      have h2' : q < wid t := by omega
      rw [show wid t - q = (wid t - (q + 1)) + 1 by omega, confsF] at hc2
      have hcf := conflict_c t p q h1 h2' hr
      try simp 
      repeat' (first
        | (refine CallX.pure (hcf) (by simp) (by simp) ?_; try simp )
        | (refine CallK.intro (hcf) (by simp) (by simp) ?_; try simp )
        | (refine CallG.intro (fun _ => hcf) (by simp) (by simp) ?_; try simp )
        | ((with_reducible refine PreK.intro ?_ ?_); (next => (first | omega | (intros; first | omega | (refine ⟨by omega, ?_⟩; repeat (first | assumption | constructor)) | assumption))); intro _; try simp )
        | fail)
      refine CondK.intro (fun h3 => ?_) (fun h3 => ?_)
      · rw [if_pos h3] at hc2
        repeat (refine PreK.intro (by first | omega | (intros; first | omega | (refine ⟨by omega, ?_⟩; simp_all; done) | (simp_all; done) | (simp_all; omega))) fun _ => ?_; (try simp ))
        exact hq2 (q + 1, v2 + 1, acc2 ++ [(p, q)]) _ ⟨by dsimp only; omega, by dsimp only; omega, by simpa using hc2⟩ (by dsimp only; omega) (by simp)
      · rw [if_neg (by simp [h3])] at hc2
        repeat (refine PreK.intro (by first | omega | (intros; first | omega | (refine ⟨by omega, ?_⟩; simp_all; done) | (simp_all; done) | (simp_all; omega))) fun _ => ?_; (try simp ))
        exact hq2 (q + 1, v2, acc2) _ ⟨by dsimp only; omega, by dsimp only; omega, hc2⟩ (by dsimp only; omega) (by simp)
    · simp at h2
      have : q = wid t := by omega
      subst this
      simp only [Nat.sub_self, confsF, List.nil_append] at hc2
      try simp 
      apply he2
      repeat (refine PreK.intro (by first | omega | (intros; first | omega | (refine ⟨by omega, ?_⟩; simp_all; done) | (simp_all; done) | (simp_all; omega))) fun _ => ?_; (try simp ))
      exact hq (p + 1, v2, acc2) _ ⟨by dsimp only; omega, hc2⟩ (by dsimp only; omega) (by simp)
  · simp at h1
    have : p = wid t := by omega
    subst this
    simp only [Nat.sub_self, confsG, List.append_nil] at hc
    subst hc
    try simp 
    apply he
    try simp 
theorem CT39 {args : List AV} {sz : Nat} {els : List AV} {u : Value} (hn : args.length ≤ 12) (hu : u.oneCell' = true) (h : vc Try.prog T [] A39 (FinT [(.tmp 2), (.tmp 3)] sz els u) ⟨envOf 0 args, []⟩) : CallT Try.prog 39 args sz els u :=
  callT_of tok mixed Try.func39 (by kernel_rfl) (by kernel_rfl) (by kernel_rfl : Try.f39.ntmps = 12) (by kernel_rfl : Try.f39.body.bind (strip 12 (fun _ => [])) = some A39) hn hu h
theorem Conflicts_t (t : List (List Int)) (hs : Sm t) (hr : Rds t) (hv : vErr t = 0) : CallT Try.prog 39 [rdsV t] 2 ((confsM t).map pairV) (.int .i64 0) := by
  refine CT39 (by simp) rfl ?_
  have c1 := Validate_c t hs
  rw [hv] at c1
  simp [A39]
  try simp 
  repeat' (first
    | (refine CallX.pure (c1) (by simp) (by simp) ?_; try simp )
    | (refine CallK.intro (c1) (by simp) (by simp) ?_; try simp )
    | (refine CallG.intro (fun _ => c1) (by simp) (by simp) ?_; try simp )
    | ((with_reducible refine PreK.intro ?_ ?_); (next => (first | omega | (intros; first | omega | (refine ⟨by omega, ?_⟩; repeat (first | assumption | constructor)) | assumption))); intro _; try simp )
    | fail)
  refine CondK.ff ?_
  try simp 
  try simp 
  repeat (refine PreK.intro (by first | omega | (intros; first | omega | (refine ⟨by omega, ?_⟩; simp_all; done) | (simp_all; done) | (simp_all; omega))) fun _ => ?_; (try simp ))
  refine CallX.own (by simpa using conflicts_o t hr) (by simp) (by simp) ?_
  try simp 
  repeat (refine PreK.intro (by first | omega | (intros; first | omega | (refine ⟨by omega, ?_⟩; simp_all; done) | (simp_all; done) | (simp_all; omega))) fun _ => ?_; (try simp ))
theorem vErr_ofS {t : List (List Int)} (h : Rds t) : vErr t = 0 := by
  unfold vErr
  have n1 := h.pos
  have n2 := h.num
  have n3 := h.w6
  unfold wid at n3
  rw [if_neg (by omega), if_neg (by omega), if_neg ?_]
  simp only [List.any_eq_true, not_exists, not_and]
  intro r hr hbad
  unfold rowBad at hbad
  simp only [Bool.or_eq_true, decide_eq_true_eq, List.any_eq_true] at hbad
  rcases hbad with h1 | ⟨x, hx, h1⟩
  · exact h1 (h.rows r hr)
  · have := h.rd r hr x hx
    unfold okR at h1
    simp at h1
    omega
theorem smS {t : List (List Int)} (h : Rds t) : Sm t := ⟨by have := h.num; omega, fun r hr => by have := h.rows r hr; have := h.w6; omega⟩
theorem spX_len (t : List (List Int)) (p : Nat) (to : List Int) (j : Nat) : (spX t p to j).length = (el t j).length := by unfold spX; rw [List.length_set]
theorem spell_rowsX (t : List (List Int)) (p : Nat) (to : List Int) : (spellM t p to).map ints = (List.range t.length).map fun j => ints (spX t p to j) := spell_rows t p to
theorem set_fill (L : List AV) (q : Nat) (h : q < L.length) (v : AV) : (List.replicate q v ++ L.drop q).set q v = List.replicate (q + 1) v ++ L.drop (q + 1) := by
  have e : (List.replicate q v).length = q := List.length_replicate
  rw [List.drop_eq_getElem_cons h, List.set_append_right _ _ (by omega), e, Nat.sub_self, List.set_cons_zero, List.replicate_succ', List.append_assoc]
  rfl
theorem flat_pairs (l : List (Nat × Nat)) : ∀ j, j < (l.map pairV).length → flat ((l.map pairV).getD j .junk) = true := by
  intro j hj
  rw [List.getD_eq_getElem?_getD, List.getElem?_map, List.getElem?_eq_getElem (by simpa using hj)]
  rfl
theorem nth_fill (X : List Int) (q : Nat) (h : q < X.length) (v : AV) : nth (List.replicate q v ++ List.drop q (X.map iv)) q = iv (el X q) := by
  have e : (List.replicate q v).length = q := List.length_replicate
  have h2 : q < (X.map iv).length := by simpa using h
  unfold nth
  rw [List.getD_eq_getElem?_getD, List.getElem?_append_right (by omega), e, Nat.sub_self, List.drop_eq_getElem_cons h2]
  simp [el_eq X q h]
def rowY (t : List (List Int)) (p : Nat) (to : List Int) (n i : Nat) : List (Nat × Option Box) := (List.range n).map fun j => (1100 + j, some ⟨1, if j < i then List.replicate (el t j).length (AV.raw (.int .i64 (-1))) else (spX t p to j).map iv, 1, false⟩)
def rowZ (t : List (List Int)) (p : Nat) (to : List Int) (n i q : Nat) : List (Nat × Option Box) := (List.range n).map fun j => (1100 + j, some ⟨1, if j < i then List.replicate (el t j).length (AV.raw (.int .i64 (-1))) else if j = i then List.replicate q (AV.raw (.int .i64 (-1))) ++ ((spX t p to j).map iv).drop q else (spX t p to j).map iv, 1, false⟩)
theorem apart_isS {t : List (List Int)} (hv : vErr t = 0) {i : Nat} (h0 : 0 < t.length) (hi : i < t.length) : ApartR t 0 (i : Int) = (((apartF (el t 0) (el t i) 0 (wid t) : Nat) : Int), 0) := by
  have e : ∀ n : Nat, n < t.length → copyErr t n = 0 := by
    intro n hn
    unfold copyErr
    rw [if_neg (by simp [hv]), if_pos (by simp; omega)]
  unfold ApartR
  have e0 : copyErr t 0 = 0 := e 0 h0
  rw [if_neg (by simp [e0]), if_neg (by simp [e i hi])]
  rfl
theorem SpellR_ok {t : List (List Int)} {p : Int} {to : List Int} : ((SpellR t p to).2 ≠ 0 → (SpellR t p to).1 = []) ∧ ((SpellR t p to).2 = 0 → vErr t = 0 ∧ toErr to = 0 ∧ ∃ k : Nat, p = (k : Int) ∧ k < wid t) := by
  unfold SpellR
  by_cases h1 : placedErr t [p] = 0
  · rw [if_neg (by simpa using h1)]
    by_cases h2 : toErr to = 0
    · rw [if_neg (by simpa using h2)]
      refine ⟨fun h => absurd rfl h, fun _ => ?_⟩
      unfold placedErr at h1
      split at h1
      · rename_i h3; exact absurd h1 h3
      · rename_i h3
        split at h1
        · cases h1
        · rename_i h5
          simp [noPlace] at h5
          exact ⟨by simpa using h3, h2, p.toNat, by omega, by omega⟩
    · rw [if_pos h2]
      exact ⟨fun _ => rfl, fun h => by cases h⟩
  · rw [if_pos h1]
    exact ⟨fun _ => rfl, fun h => absurd h h1⟩
theorem lawStemmaSpells_c (t : List (List Int)) (p : Int) (to : List Int) (hb : t.length ≤ big) (hbt : to.length ≤ big) : CallP Try.prog 14 [rdsV t, iv p, ints to] (bv true) := by
  refine C14 (by simp) ?_
  have hlg := Long7_c t hb
  simp only [big] at hbt
  simp [A14]
  cases hL : longT t with
  | true =>
    rw [hL] at hlg
    try simp 
    repeat' (first
      | (refine CallX.pure (hlg) (by simp) (by simp) ?_; try simp )
      | (refine CallK.intro (hlg) (by simp) (by simp) ?_; try simp )
      | (refine CallG.intro (fun _ => hlg) (by simp) (by simp) ?_; try simp )
      | ((with_reducible refine PreK.intro ?_ ?_); (next => (first | omega | (intros; first | omega | (refine ⟨by omega, ?_⟩; repeat (first | assumption | constructor)) | assumption))); intro _; try simp )
      | fail)
    refine CondK.tt ?_
    try simp 
    try simp 
    repeat' (first
      | (refine CallX.pure (sane7_c) (by simp) (by simp) ?_; try simp )
      | (refine CallK.intro (sane7_c) (by simp) (by simp) ?_; try simp )
      | (refine CallG.intro (fun _ => sane7_c) (by simp) (by simp) ?_; try simp )
      | ((with_reducible refine PreK.intro ?_ ?_); (next => (first | omega | (intros; first | omega | (refine ⟨by omega, ?_⟩; repeat (first | assumption | constructor)) | assumption))); intro _; try simp )
      | fail)
  | false =>
    rw [hL] at hlg
    by_cases h50 : 50 < to.length
    · have h50' : (50 : Int) < to.length := by omega
      try simp [h50, h50']
      repeat' (first
        | (refine CallX.pure (hlg) (by simp) (by simp) ?_; try simp [h50, h50'])
        | (refine CallK.intro (hlg) (by simp) (by simp) ?_; try simp [h50, h50'])
        | (refine CallG.intro (fun _ => hlg) (by simp) (by simp) ?_; try simp [h50, h50'])
        | ((with_reducible refine PreK.intro ?_ ?_); (next => (first | omega | (intros; first | omega | (refine ⟨by omega, ?_⟩; repeat (first | assumption | constructor)) | assumption))); intro _; try simp [h50, h50'])
        | fail)
      refine CondK.tt ?_
      try simp 
      try simp 
      repeat' (first
        | (refine CallX.pure (sane7_c) (by simp) (by simp) ?_; try simp )
        | (refine CallK.intro (sane7_c) (by simp) (by simp) ?_; try simp )
        | (refine CallG.intro (fun _ => sane7_c) (by simp) (by simp) ?_; try simp )
        | ((with_reducible refine PreK.intro ?_ ?_); (next => (first | omega | (intros; first | omega | (refine ⟨by omega, ?_⟩; repeat (first | assumption | constructor)) | assumption))); intro _; try simp )
        | fail)
    · have h50' : ¬ (50 : Int) < to.length := by omega
      try simp [h50, h50']
      repeat' (first
        | (refine CallX.pure (hlg) (by simp) (by simp) ?_; try simp [h50, h50'])
        | (refine CallK.intro (hlg) (by simp) (by simp) ?_; try simp [h50, h50'])
        | (refine CallG.intro (fun _ => hlg) (by simp) (by simp) ?_; try simp [h50, h50'])
        | ((with_reducible refine PreK.intro ?_ ?_); (next => (first | omega | (intros; first | omega | (refine ⟨by omega, ?_⟩; repeat (first | assumption | constructor)) | assumption))); intro _; try simp [h50, h50'])
        | fail)
      refine CondK.ff ?_
      try simp 
      obtain ⟨hs, _, _⟩ := longT_small hL
      have c1 := Copy_c t hs
      have c2 := rSpell_c t p to hs (by omega)
      obtain ⟨hbad, hgood⟩ := @SpellR_ok t p to
      have hn7 := hs.num
      have cown := same07_c t t (by simp only [big]; omega) (fun x hx => by have := hs.row x hx; simp only [big]; omega)
      by_cases h0 : (SpellR t p to).2 = 0
      · obtain ⟨hv, hto, k, rfl, hpw⟩ := hgood h0
        have hrd := vErr_zero hv
        have hR : SpellR t (k : Int) to = (spellM t k to, 0) := by
          unfold SpellR
          rw [placed_isS hrd hv hpw, if_neg (by decide), if_neg (by simpa using hto), Int.toNat_natCast]
        rw [hR] at c2
        dsimp only at c2
        have hsp := toErr_zero hto
        have hrs := spell_rds hrd hpw hsp
        have hvs := vErr_ofS hrs
        have hss := smS hrs
        have hnum := hrd.num
        have hpos := hrd.pos
        have hw6 := hrd.w6
        have hsl := spell_len t k to
        have cs := Spell_m t k to hs hv hpw hto
        have c3 := same07_c (spellM t k to) (spellM t k to) (by simp only [big]; omega) (fun x hx => by have := hss.row x hx; simp only [big]; omega)
        have c4 := Conflicts_c t hs
        have e4 : ConfsR t = (confsM t, 0) := by unfold ConfsR; rw [if_neg (by simpa using hv)]
        rw [e4] at c4
        dsimp only at c4
        have c5 := Conflicts_t (spellM t k to) hss hrs hvs
        rw [spell_confs hrd hpw hsp] at c5
        have hcl := confs_len t hw6
        have c6 := samePairs_c (confsM t) (confsM t) (by omega)
        have c7 : ∀ i, i < t.length → CallP Try.prog 29 [rdsV t, iv 0, iv (i : Int)] (.tup [iv (apartF (el t 0) (el t i) 0 (wid t) : Nat), iv 0]) := by
          intro i hi
          have h := Apart_c t 0 (i : Int) hs
          rw [apart_isS hv hpos hi] at h
          exact h
        have c8 : ∀ i, i < t.length → CallP Try.prog 29 [rdsV (spellM t k to), iv 0, iv (i : Int)] (.tup [iv (apartF (el t 0) (el t i) 0 (wid t) : Nat), iv 0]) := by
          intro i hi
          have h := Apart_c (spellM t k to) 0 (i : Int) hss
          rw [apart_isS hvs (by omega) (by omega), spell_wid hrd, spell_apart hrd hpw hsp hpos hi] at h
          exact h
        have hsr := spell_rowsX t k to
        have hxl : ∀ j, (spX t k to j).length = (el t j).length := spX_len t k to
        have htk : ∀ j, List.take (el t j).length (List.map iv (spX t k to j)) = List.map iv (spX t k to j) := fun j => List.take_of_length_le (by simp [hxl])
        have hel : ∀ j, (el t j).length ≤ 1000 := fun j => hs.el j
        try simp 
        repeat' (first
          | (refine CallX.pure (c1) (by simp) (by simp) ?_; try simp )
          | (refine CallK.intro (c1) (by simp) (by simp) ?_; try simp )
          | (refine CallG.intro (fun _ => c1) (by simp) (by simp) ?_; try simp )
          | ((with_reducible refine PreK.intro ?_ ?_); (next => (first | omega | (intros; first | omega | (refine ⟨by omega, ?_⟩; repeat (first | assumption | constructor)) | assumption))); intro _; try simp )
          | fail)
        have hn : t.length = 1 ∨ t.length = 2 ∨ t.length = 3 ∨ t.length = 4 ∨ t.length = 5 ∨ t.length = 6 := by omega
        rcases hn with hn | hn | hn | hn | hn | hn
        · rw [hn] at cs hsr c7 c8
          simp only [namX, rowX] at cs
          simp only [range_succ', List.range_zero, List.nil_append, List.map_append, List.map_cons, List.map_nil, List.cons_append] at hsr
          refine CallX.mem 0 cs (by simp) (by simp [range_succ']) (by simp [range_succ']) ?_
          simp [range_succ']
          try simp 
          repeat (refine PreK.intro (by first | omega | (intros; first | omega | (refine ⟨by omega, ?_⟩; simp_all; done) | (simp_all; done) | (simp_all; omega))) fun _ => ?_; (try simp ))
          try simp 
          repeat' (first
            | (refine CallX.pure (c2) (by simp) (by simp) ?_; try simp )
            | (refine CallK.intro (c2) (by simp) (by simp) ?_; try simp )
            | (refine CallG.intro (fun _ => c2) (by simp) (by simp) ?_; try simp )
            | ((with_reducible refine PreK.intro ?_ ?_); (next => (first | omega | (intros; first | omega | (refine ⟨by omega, ?_⟩; repeat (first | assumption | constructor)) | assumption))); intro _; try simp )
            | fail)
          try simp 
          repeat (refine PreK.intro (by first | omega | (intros; first | omega | (refine ⟨by omega, ?_⟩; simp_all; done) | (simp_all; done) | (simp_all; omega))) fun _ => ?_; (try simp ))
          refine CallX.deep (r := bv true) (by simpa [hsr, htk] using c3) (by simp [hxl]) (by simp) ?_
          try simp 
          repeat (refine PreK.intro (by first | omega | (intros; first | omega | (refine ⟨by omega, ?_⟩; simp_all; done) | (simp_all; done) | (simp_all; omega))) fun _ => ?_; (try simp ))
          refine CondK.ff ?_
          try simp 
          try simp 
          repeat (refine PreK.intro (by first | omega | (intros; first | omega | (refine ⟨by omega, ?_⟩; simp_all; done) | (simp_all; done) | (simp_all; omega))) fun _ => ?_; (try simp ))
          refine CondK.tt ?_
          try simp 
          try simp 
          repeat' (first
            | (refine CallX.pure (c4) (by simp) (by simp) ?_; try simp )
            | (refine CallK.intro (c4) (by simp) (by simp) ?_; try simp )
            | (refine CallG.intro (fun _ => c4) (by simp) (by simp) ?_; try simp )
            | ((with_reducible refine PreK.intro ?_ ?_); (next => (first | omega | (intros; first | omega | (refine ⟨by omega, ?_⟩; repeat (first | assumption | constructor)) | assumption))); intro _; try simp )
            | fail)
          try simp 
          repeat (refine PreK.intro (by first | omega | (intros; first | omega | (refine ⟨by omega, ?_⟩; simp_all; done) | (simp_all; done) | (simp_all; omega))) fun _ => ?_; (try simp ))
          refine CallX.deepT (by simpa [hsr, htk] using c5) (by simp [hxl]) (flat_pairs _) ?_
          try simp 
          repeat (refine PreK.intro (by first | omega | (intros; first | omega | (refine ⟨by omega, ?_⟩; simp_all; done) | (simp_all; done) | (simp_all; omega))) fun _ => ?_; (try simp ))
          have c6' : CallP Try.prog 43 [pairsV (confsM t), pairsV (confsM t)] (bv true) := by simpa using c6
          try simp 
          repeat' (first
            | (refine CallX.pure (c6') (by simp) (by simp) ?_; try simp )
            | (refine CallK.intro (c6') (by simp) (by simp) ?_; try simp )
            | (refine CallG.intro (fun _ => c6') (by simp) (by simp) ?_; try simp )
            | ((with_reducible refine PreK.intro ?_ ?_); (next => (first | omega | (intros; first | omega | (refine ⟨by omega, ?_⟩; repeat (first | assumption | constructor)) | assumption))); intro _; try simp )
            | fail)
          try simp 
          repeat (refine PreK.intro (by first | omega | (intros; first | omega | (refine ⟨by omega, ?_⟩; simp_all; done) | (simp_all; done) | (simp_all; omega))) fun _ => ?_; (try simp ))
          refine CondK.ff ?_
          try simp 
          try simp 
          repeat (refine PreK.intro (by first | omega | (intros; first | omega | (refine ⟨by omega, ?_⟩; simp_all; done) | (simp_all; done) | (simp_all; omega))) fun _ => ?_; (try simp ))
          have hn' : (t.length : Int) = 1 := by omega
          refine LoopK.by (ι := Nat) (fun i => ⟨[(16, iv i), (7, rdsV t), (8, .sl 1008 1 0 1), (0, rdsV t)], (1008, some ⟨1, namX t 1, 1, true⟩) :: rowX t k to 1 1⟩) (fun i => 1 - i) (fun i => i ≤ 1) 0 (Nat.zero_le _) (by simp [namX, rowX, range_succ', leEls_refl]) ?_
          intro i Q' hi hq he hr
          simp [namX, rowX, range_succ']
          by_cases h5 : i < 1
          · have h5' : (i : Int) < 1 := by omega
            try simp [hn, hn', h5, h5']
            repeat (refine PreK.intro (by first | omega | (intros; first | omega | (refine ⟨by omega, ?_⟩; simp_all; done) | (simp_all; done) | (simp_all; omega))) fun _ => ?_; (try simp [hn, hn', h5, h5']))
            refine CondK.tt ?_
            try simp 
            try simp 
            repeat' (first
              | (refine CallX.pure ((c7 i (by omega))) (by simp) (by simp) ?_; try simp )
              | (refine CallK.intro ((c7 i (by omega))) (by simp) (by simp) ?_; try simp )
              | (refine CallG.intro (fun _ => (c7 i (by omega))) (by simp) (by simp) ?_; try simp )
              | ((with_reducible refine PreK.intro ?_ ?_); (next => (first | omega | (intros; first | omega | (refine ⟨by omega, ?_⟩; repeat (first | assumption | constructor)) | assumption))); intro _; try simp )
              | fail)
            try simp 
            repeat (refine PreK.intro (by first | omega | (intros; first | omega | (refine ⟨by omega, ?_⟩; simp_all; done) | (simp_all; done) | (simp_all; omega))) fun _ => ?_; (try simp ))
            refine CallX.deep (by simpa [hsr, htk] using c8 i (by omega)) (by simp [hxl]) (by simp) ?_
            try simp 
            repeat (refine PreK.intro (by first | omega | (intros; first | omega | (refine ⟨by omega, ?_⟩; simp_all; done) | (simp_all; done) | (simp_all; omega))) fun _ => ?_; (try simp ))
            refine CondK.ff ?_
            try simp 
            try simp 
            repeat (refine PreK.intro (by first | omega | (intros; first | omega | (refine ⟨by omega, ?_⟩; simp_all; done) | (simp_all; done) | (simp_all; omega))) fun _ => ?_; (try simp ))
            exact hq (i + 1) _ (by omega) (by omega) (by simp [namX, rowX, range_succ', leEls_refl])
          · have h5' : ¬ (i : Int) < 1 := by omega
            try simp [hn, hn', h5, h5']
            repeat (refine PreK.intro (by first | omega | (intros; first | omega | (refine ⟨by omega, ?_⟩; simp_all; done) | (simp_all; done) | (simp_all; omega))) fun _ => ?_; (try simp [hn, hn', h5, h5']))
            refine CondK.ff ?_
            try simp 
            apply he
            try simp 
            repeat (refine PreK.intro (by first | omega | (intros; first | omega | (refine ⟨by omega, ?_⟩; simp_all; done) | (simp_all; done) | (simp_all; omega))) fun _ => ?_; (try simp ))
            refine LoopK.by (ι := Nat) (fun i => ⟨[(21, iv i), (7, rdsV t), (8, .sl 1008 1 0 1), (0, rdsV t)], (1008, some ⟨1, namX t 1, 1, true⟩) :: rowY t k to 1 i⟩) (fun i => 1 - i) (fun i => i ≤ 1) 0 (Nat.zero_le _) (by simp [namX, rowY, range_succ', leEls_refl]) ?_
            intro i3 Q3 hi3 hq3 he3 hr3
            have hi6 : i3 = 0 ∨ i3 = 1 := by omega
            rcases hi6 with rfl | rfl
            · have hlj := hel 0
              simp [namX, rowY, range_succ']
              try simp 
              repeat (refine PreK.intro (by first | omega | (intros; first | omega | (refine ⟨by omega, ?_⟩; simp_all; done) | (simp_all; done) | (simp_all; omega))) fun _ => ?_; (try simp ))
              refine CondK.intro (fun h6 => ?_) (fun h6 => ?_)
              · try simp 
                repeat (refine PreK.intro (by first | omega | (intros; first | omega | (refine ⟨by omega, ?_⟩; simp_all; done) | (simp_all; done) | (simp_all; omega))) fun _ => ?_; (try simp ))
                refine LoopK.by (ι := Nat) (fun q => ⟨[(22, iv q), (21, iv 0), (7, rdsV t), (8, .sl 1008 1 0 1), (0, rdsV t)], (1008, some ⟨1, namX t 1, 1, true⟩) :: rowZ t k to 1 0 q⟩) (fun q => (el t 0).length - q) (fun q => q ≤ (el t 0).length) 0 (Nat.zero_le _) (by simp [namX, rowZ, range_succ', leEls_refl]) ?_
                intro q Q4 hq4 hqq he4 hr4
                simp [namX, rowZ, range_succ']
                by_cases h7 : q < (el t 0).length
                · have h7' : (q : Int) < (el t 0).length := by omega
                  have hsf := set_fill ((spX t k to 0).map iv) q (by rw [List.length_map, hxl]; exact h7) (AV.raw (.int .i64 (-1)))
                  have hlt : q < q + ((el t 0).length - q) := by omega
                  have hnt := nth_fill (spX t k to 0) q (by rw [hxl]; exact h7) (AV.raw (.int .i64 (-1)))
                  try simp [h7, h7', hxl, hlt, hnt]
                  repeat (refine PreK.intro (by first | omega | (intros; first | omega | (refine ⟨by omega, ?_⟩; simp_all; done) | (simp_all; done) | (simp_all; omega))) fun _ => ?_; (try simp [h7, h7', hxl, hlt, hnt]))
                  refine CondK.tt ?_
                  try simp 
                  try simp [h7, h7', hxl, hlt, hnt, hsf]
                  repeat (refine PreK.intro (by first | omega | (intros; first | omega | (refine ⟨by omega, ?_⟩; simp_all; done) | (simp_all; done) | (simp_all; omega))) fun _ => ?_; (try simp [h7, h7', hxl, hlt, hnt, hsf]))
                  exact hqq (q + 1) _ (by omega) (by omega) (by simp [namX, rowZ, range_succ', hsf, leEls_refl])
                · have hqe : q = (el t 0).length := by omega
                  subst hqe
                  have hdr : List.drop (el t 0).length ((spX t k to 0).map iv) = [] := List.drop_eq_nil_of_le (by rw [List.length_map, hxl]; exact Nat.le_refl _)
                  try simp 
                  repeat (refine PreK.intro (by first | omega | (intros; first | omega | (refine ⟨by omega, ?_⟩; simp_all; done) | (simp_all; done) | (simp_all; omega))) fun _ => ?_; (try simp ))
                  refine CondK.ff ?_
                  try simp 
                  apply he4
                  try simp 
                  repeat (refine PreK.intro (by first | omega | (intros; first | omega | (refine ⟨by omega, ?_⟩; simp_all; done) | (simp_all; done) | (simp_all; omega))) fun _ => ?_; (try simp ))
                  exact hq3 1 _ (by omega) (by omega) (by simp [namX, rowY, range_succ', hdr, leEls_refl])
              · simp at h6
            · simp [namX, rowY, range_succ']
              try simp 
              repeat (refine PreK.intro (by first | omega | (intros; first | omega | (refine ⟨by omega, ?_⟩; simp_all; done) | (simp_all; done) | (simp_all; omega))) fun _ => ?_; (try simp ))
              refine CondK.intro (fun h6 => ?_) (fun h6 => ?_)
              · simp at h6
              · apply he3
                try simp 
                repeat' (first
                  | (refine CallX.pure (cown) (by simp) (by simp) ?_; try simp )
                  | (refine CallK.intro (cown) (by simp) (by simp) ?_; try simp )
                  | (refine CallG.intro (fun _ => cown) (by simp) (by simp) ?_; try simp )
                  | ((with_reducible refine PreK.intro ?_ ?_); (next => (first | omega | (intros; first | omega | (refine ⟨by omega, ?_⟩; repeat (first | assumption | constructor)) | assumption))); intro _; try simp )
                  | fail)
                try simp 
                repeat' (first
                  | (refine CallX.pure (sane7_c) (by simp) (by simp) ?_; try simp )
                  | (refine CallK.intro (sane7_c) (by simp) (by simp) ?_; try simp )
                  | (refine CallG.intro (fun _ => sane7_c) (by simp) (by simp) ?_; try simp )
                  | ((with_reducible refine PreK.intro ?_ ?_); (next => (first | omega | (intros; first | omega | (refine ⟨by omega, ?_⟩; repeat (first | assumption | constructor)) | assumption))); intro _; try simp )
                  | fail)
        · rw [hn] at cs hsr c7 c8
          simp only [namX, rowX] at cs
          simp only [range_succ', List.range_zero, List.nil_append, List.map_append, List.map_cons, List.map_nil, List.cons_append] at hsr
          refine CallX.mem 0 cs (by simp) (by simp [range_succ']) (by simp [range_succ']) ?_
          simp [range_succ']
          try simp 
          repeat (refine PreK.intro (by first | omega | (intros; first | omega | (refine ⟨by omega, ?_⟩; simp_all; done) | (simp_all; done) | (simp_all; omega))) fun _ => ?_; (try simp ))
          try simp 
          repeat' (first
            | (refine CallX.pure (c2) (by simp) (by simp) ?_; try simp )
            | (refine CallK.intro (c2) (by simp) (by simp) ?_; try simp )
            | (refine CallG.intro (fun _ => c2) (by simp) (by simp) ?_; try simp )
            | ((with_reducible refine PreK.intro ?_ ?_); (next => (first | omega | (intros; first | omega | (refine ⟨by omega, ?_⟩; repeat (first | assumption | constructor)) | assumption))); intro _; try simp )
            | fail)
          try simp 
          repeat (refine PreK.intro (by first | omega | (intros; first | omega | (refine ⟨by omega, ?_⟩; simp_all; done) | (simp_all; done) | (simp_all; omega))) fun _ => ?_; (try simp ))
          refine CallX.deep (r := bv true) (by simpa [hsr, htk] using c3) (by simp [hxl]) (by simp) ?_
          try simp 
          repeat (refine PreK.intro (by first | omega | (intros; first | omega | (refine ⟨by omega, ?_⟩; simp_all; done) | (simp_all; done) | (simp_all; omega))) fun _ => ?_; (try simp ))
          refine CondK.ff ?_
          try simp 
          try simp 
          repeat (refine PreK.intro (by first | omega | (intros; first | omega | (refine ⟨by omega, ?_⟩; simp_all; done) | (simp_all; done) | (simp_all; omega))) fun _ => ?_; (try simp ))
          refine CondK.tt ?_
          try simp 
          try simp 
          repeat' (first
            | (refine CallX.pure (c4) (by simp) (by simp) ?_; try simp )
            | (refine CallK.intro (c4) (by simp) (by simp) ?_; try simp )
            | (refine CallG.intro (fun _ => c4) (by simp) (by simp) ?_; try simp )
            | ((with_reducible refine PreK.intro ?_ ?_); (next => (first | omega | (intros; first | omega | (refine ⟨by omega, ?_⟩; repeat (first | assumption | constructor)) | assumption))); intro _; try simp )
            | fail)
          try simp 
          repeat (refine PreK.intro (by first | omega | (intros; first | omega | (refine ⟨by omega, ?_⟩; simp_all; done) | (simp_all; done) | (simp_all; omega))) fun _ => ?_; (try simp ))
          refine CallX.deepT (by simpa [hsr, htk] using c5) (by simp [hxl]) (flat_pairs _) ?_
          try simp 
          repeat (refine PreK.intro (by first | omega | (intros; first | omega | (refine ⟨by omega, ?_⟩; simp_all; done) | (simp_all; done) | (simp_all; omega))) fun _ => ?_; (try simp ))
          have c6' : CallP Try.prog 43 [pairsV (confsM t), pairsV (confsM t)] (bv true) := by simpa using c6
          try simp 
          repeat' (first
            | (refine CallX.pure (c6') (by simp) (by simp) ?_; try simp )
            | (refine CallK.intro (c6') (by simp) (by simp) ?_; try simp )
            | (refine CallG.intro (fun _ => c6') (by simp) (by simp) ?_; try simp )
            | ((with_reducible refine PreK.intro ?_ ?_); (next => (first | omega | (intros; first | omega | (refine ⟨by omega, ?_⟩; repeat (first | assumption | constructor)) | assumption))); intro _; try simp )
            | fail)
          try simp 
          repeat (refine PreK.intro (by first | omega | (intros; first | omega | (refine ⟨by omega, ?_⟩; simp_all; done) | (simp_all; done) | (simp_all; omega))) fun _ => ?_; (try simp ))
          refine CondK.ff ?_
          try simp 
          try simp 
          repeat (refine PreK.intro (by first | omega | (intros; first | omega | (refine ⟨by omega, ?_⟩; simp_all; done) | (simp_all; done) | (simp_all; omega))) fun _ => ?_; (try simp ))
          have hn' : (t.length : Int) = 2 := by omega
          refine LoopK.by (ι := Nat) (fun i => ⟨[(16, iv i), (7, rdsV t), (8, .sl 1008 1 0 2), (0, rdsV t)], (1008, some ⟨1, namX t 2, 1, true⟩) :: rowX t k to 2 2⟩) (fun i => 2 - i) (fun i => i ≤ 2) 0 (Nat.zero_le _) (by simp [namX, rowX, range_succ', leEls_refl]) ?_
          intro i Q' hi hq he hr
          simp [namX, rowX, range_succ']
          by_cases h5 : i < 2
          · have h5' : (i : Int) < 2 := by omega
            try simp [hn, hn', h5, h5']
            repeat (refine PreK.intro (by first | omega | (intros; first | omega | (refine ⟨by omega, ?_⟩; simp_all; done) | (simp_all; done) | (simp_all; omega))) fun _ => ?_; (try simp [hn, hn', h5, h5']))
            refine CondK.tt ?_
            try simp 
            try simp 
            repeat' (first
              | (refine CallX.pure ((c7 i (by omega))) (by simp) (by simp) ?_; try simp )
              | (refine CallK.intro ((c7 i (by omega))) (by simp) (by simp) ?_; try simp )
              | (refine CallG.intro (fun _ => (c7 i (by omega))) (by simp) (by simp) ?_; try simp )
              | ((with_reducible refine PreK.intro ?_ ?_); (next => (first | omega | (intros; first | omega | (refine ⟨by omega, ?_⟩; repeat (first | assumption | constructor)) | assumption))); intro _; try simp )
              | fail)
            try simp 
            repeat (refine PreK.intro (by first | omega | (intros; first | omega | (refine ⟨by omega, ?_⟩; simp_all; done) | (simp_all; done) | (simp_all; omega))) fun _ => ?_; (try simp ))
            refine CallX.deep (by simpa [hsr, htk] using c8 i (by omega)) (by simp [hxl]) (by simp) ?_
            try simp 
            repeat (refine PreK.intro (by first | omega | (intros; first | omega | (refine ⟨by omega, ?_⟩; simp_all; done) | (simp_all; done) | (simp_all; omega))) fun _ => ?_; (try simp ))
            refine CondK.ff ?_
            try simp 
            try simp 
            repeat (refine PreK.intro (by first | omega | (intros; first | omega | (refine ⟨by omega, ?_⟩; simp_all; done) | (simp_all; done) | (simp_all; omega))) fun _ => ?_; (try simp ))
            exact hq (i + 1) _ (by omega) (by omega) (by simp [namX, rowX, range_succ', leEls_refl])
          · have h5' : ¬ (i : Int) < 2 := by omega
            try simp [hn, hn', h5, h5']
            repeat (refine PreK.intro (by first | omega | (intros; first | omega | (refine ⟨by omega, ?_⟩; simp_all; done) | (simp_all; done) | (simp_all; omega))) fun _ => ?_; (try simp [hn, hn', h5, h5']))
            refine CondK.ff ?_
            try simp 
            apply he
            try simp 
            repeat (refine PreK.intro (by first | omega | (intros; first | omega | (refine ⟨by omega, ?_⟩; simp_all; done) | (simp_all; done) | (simp_all; omega))) fun _ => ?_; (try simp ))
            refine LoopK.by (ι := Nat) (fun i => ⟨[(21, iv i), (7, rdsV t), (8, .sl 1008 1 0 2), (0, rdsV t)], (1008, some ⟨1, namX t 2, 1, true⟩) :: rowY t k to 2 i⟩) (fun i => 2 - i) (fun i => i ≤ 2) 0 (Nat.zero_le _) (by simp [namX, rowY, range_succ', leEls_refl]) ?_
            intro i3 Q3 hi3 hq3 he3 hr3
            have hi6 : i3 = 0 ∨ i3 = 1 ∨ i3 = 2 := by omega
            rcases hi6 with rfl | rfl | rfl
            · have hlj := hel 0
              simp [namX, rowY, range_succ']
              try simp 
              repeat (refine PreK.intro (by first | omega | (intros; first | omega | (refine ⟨by omega, ?_⟩; simp_all; done) | (simp_all; done) | (simp_all; omega))) fun _ => ?_; (try simp ))
              refine CondK.intro (fun h6 => ?_) (fun h6 => ?_)
              · try simp 
                repeat (refine PreK.intro (by first | omega | (intros; first | omega | (refine ⟨by omega, ?_⟩; simp_all; done) | (simp_all; done) | (simp_all; omega))) fun _ => ?_; (try simp ))
                refine LoopK.by (ι := Nat) (fun q => ⟨[(22, iv q), (21, iv 0), (7, rdsV t), (8, .sl 1008 1 0 2), (0, rdsV t)], (1008, some ⟨1, namX t 2, 1, true⟩) :: rowZ t k to 2 0 q⟩) (fun q => (el t 0).length - q) (fun q => q ≤ (el t 0).length) 0 (Nat.zero_le _) (by simp [namX, rowZ, range_succ', leEls_refl]) ?_
                intro q Q4 hq4 hqq he4 hr4
                simp [namX, rowZ, range_succ']
                by_cases h7 : q < (el t 0).length
                · have h7' : (q : Int) < (el t 0).length := by omega
                  have hsf := set_fill ((spX t k to 0).map iv) q (by rw [List.length_map, hxl]; exact h7) (AV.raw (.int .i64 (-1)))
                  have hlt : q < q + ((el t 0).length - q) := by omega
                  have hnt := nth_fill (spX t k to 0) q (by rw [hxl]; exact h7) (AV.raw (.int .i64 (-1)))
                  try simp [h7, h7', hxl, hlt, hnt]
                  repeat (refine PreK.intro (by first | omega | (intros; first | omega | (refine ⟨by omega, ?_⟩; simp_all; done) | (simp_all; done) | (simp_all; omega))) fun _ => ?_; (try simp [h7, h7', hxl, hlt, hnt]))
                  refine CondK.tt ?_
                  try simp 
                  try simp [h7, h7', hxl, hlt, hnt, hsf]
                  repeat (refine PreK.intro (by first | omega | (intros; first | omega | (refine ⟨by omega, ?_⟩; simp_all; done) | (simp_all; done) | (simp_all; omega))) fun _ => ?_; (try simp [h7, h7', hxl, hlt, hnt, hsf]))
                  exact hqq (q + 1) _ (by omega) (by omega) (by simp [namX, rowZ, range_succ', hsf, leEls_refl])
                · have hqe : q = (el t 0).length := by omega
                  subst hqe
                  have hdr : List.drop (el t 0).length ((spX t k to 0).map iv) = [] := List.drop_eq_nil_of_le (by rw [List.length_map, hxl]; exact Nat.le_refl _)
                  try simp 
                  repeat (refine PreK.intro (by first | omega | (intros; first | omega | (refine ⟨by omega, ?_⟩; simp_all; done) | (simp_all; done) | (simp_all; omega))) fun _ => ?_; (try simp ))
                  refine CondK.ff ?_
                  try simp 
                  apply he4
                  try simp 
                  repeat (refine PreK.intro (by first | omega | (intros; first | omega | (refine ⟨by omega, ?_⟩; simp_all; done) | (simp_all; done) | (simp_all; omega))) fun _ => ?_; (try simp ))
                  exact hq3 1 _ (by omega) (by omega) (by simp [namX, rowY, range_succ', hdr, leEls_refl])
              · simp at h6
            · have hlj := hel 1
              simp [namX, rowY, range_succ']
              try simp 
              repeat (refine PreK.intro (by first | omega | (intros; first | omega | (refine ⟨by omega, ?_⟩; simp_all; done) | (simp_all; done) | (simp_all; omega))) fun _ => ?_; (try simp ))
              refine CondK.intro (fun h6 => ?_) (fun h6 => ?_)
              · try simp 
                repeat (refine PreK.intro (by first | omega | (intros; first | omega | (refine ⟨by omega, ?_⟩; simp_all; done) | (simp_all; done) | (simp_all; omega))) fun _ => ?_; (try simp ))
                refine LoopK.by (ι := Nat) (fun q => ⟨[(22, iv q), (21, iv 1), (7, rdsV t), (8, .sl 1008 1 0 2), (0, rdsV t)], (1008, some ⟨1, namX t 2, 1, true⟩) :: rowZ t k to 2 1 q⟩) (fun q => (el t 1).length - q) (fun q => q ≤ (el t 1).length) 0 (Nat.zero_le _) (by simp [namX, rowZ, range_succ', leEls_refl]) ?_
                intro q Q4 hq4 hqq he4 hr4
                simp [namX, rowZ, range_succ']
                by_cases h7 : q < (el t 1).length
                · have h7' : (q : Int) < (el t 1).length := by omega
                  have hsf := set_fill ((spX t k to 1).map iv) q (by rw [List.length_map, hxl]; exact h7) (AV.raw (.int .i64 (-1)))
                  have hlt : q < q + ((el t 1).length - q) := by omega
                  have hnt := nth_fill (spX t k to 1) q (by rw [hxl]; exact h7) (AV.raw (.int .i64 (-1)))
                  try simp [h7, h7', hxl, hlt, hnt]
                  repeat (refine PreK.intro (by first | omega | (intros; first | omega | (refine ⟨by omega, ?_⟩; simp_all; done) | (simp_all; done) | (simp_all; omega))) fun _ => ?_; (try simp [h7, h7', hxl, hlt, hnt]))
                  refine CondK.tt ?_
                  try simp 
                  try simp [h7, h7', hxl, hlt, hnt, hsf]
                  repeat (refine PreK.intro (by first | omega | (intros; first | omega | (refine ⟨by omega, ?_⟩; simp_all; done) | (simp_all; done) | (simp_all; omega))) fun _ => ?_; (try simp [h7, h7', hxl, hlt, hnt, hsf]))
                  exact hqq (q + 1) _ (by omega) (by omega) (by simp [namX, rowZ, range_succ', hsf, leEls_refl])
                · have hqe : q = (el t 1).length := by omega
                  subst hqe
                  have hdr : List.drop (el t 1).length ((spX t k to 1).map iv) = [] := List.drop_eq_nil_of_le (by rw [List.length_map, hxl]; exact Nat.le_refl _)
                  try simp 
                  repeat (refine PreK.intro (by first | omega | (intros; first | omega | (refine ⟨by omega, ?_⟩; simp_all; done) | (simp_all; done) | (simp_all; omega))) fun _ => ?_; (try simp ))
                  refine CondK.ff ?_
                  try simp 
                  apply he4
                  try simp 
                  repeat (refine PreK.intro (by first | omega | (intros; first | omega | (refine ⟨by omega, ?_⟩; simp_all; done) | (simp_all; done) | (simp_all; omega))) fun _ => ?_; (try simp ))
                  exact hq3 2 _ (by omega) (by omega) (by simp [namX, rowY, range_succ', hdr, leEls_refl])
              · simp at h6
            · simp [namX, rowY, range_succ']
              try simp 
              repeat (refine PreK.intro (by first | omega | (intros; first | omega | (refine ⟨by omega, ?_⟩; simp_all; done) | (simp_all; done) | (simp_all; omega))) fun _ => ?_; (try simp ))
              refine CondK.intro (fun h6 => ?_) (fun h6 => ?_)
              · simp at h6
              · apply he3
                try simp 
                repeat' (first
                  | (refine CallX.pure (cown) (by simp) (by simp) ?_; try simp )
                  | (refine CallK.intro (cown) (by simp) (by simp) ?_; try simp )
                  | (refine CallG.intro (fun _ => cown) (by simp) (by simp) ?_; try simp )
                  | ((with_reducible refine PreK.intro ?_ ?_); (next => (first | omega | (intros; first | omega | (refine ⟨by omega, ?_⟩; repeat (first | assumption | constructor)) | assumption))); intro _; try simp )
                  | fail)
                try simp 
                repeat' (first
                  | (refine CallX.pure (sane7_c) (by simp) (by simp) ?_; try simp )
                  | (refine CallK.intro (sane7_c) (by simp) (by simp) ?_; try simp )
                  | (refine CallG.intro (fun _ => sane7_c) (by simp) (by simp) ?_; try simp )
                  | ((with_reducible refine PreK.intro ?_ ?_); (next => (first | omega | (intros; first | omega | (refine ⟨by omega, ?_⟩; repeat (first | assumption | constructor)) | assumption))); intro _; try simp )
                  | fail)
        · rw [hn] at cs hsr c7 c8
          simp only [namX, rowX] at cs
          simp only [range_succ', List.range_zero, List.nil_append, List.map_append, List.map_cons, List.map_nil, List.cons_append] at hsr
          refine CallX.mem 0 cs (by simp) (by simp [range_succ']) (by simp [range_succ']) ?_
          simp [range_succ']
          try simp 
          repeat (refine PreK.intro (by first | omega | (intros; first | omega | (refine ⟨by omega, ?_⟩; simp_all; done) | (simp_all; done) | (simp_all; omega))) fun _ => ?_; (try simp ))
          try simp 
          repeat' (first
            | (refine CallX.pure (c2) (by simp) (by simp) ?_; try simp )
            | (refine CallK.intro (c2) (by simp) (by simp) ?_; try simp )
            | (refine CallG.intro (fun _ => c2) (by simp) (by simp) ?_; try simp )
            | ((with_reducible refine PreK.intro ?_ ?_); (next => (first | omega | (intros; first | omega | (refine ⟨by omega, ?_⟩; repeat (first | assumption | constructor)) | assumption))); intro _; try simp )
            | fail)
          try simp 
          repeat (refine PreK.intro (by first | omega | (intros; first | omega | (refine ⟨by omega, ?_⟩; simp_all; done) | (simp_all; done) | (simp_all; omega))) fun _ => ?_; (try simp ))
          refine CallX.deep (r := bv true) (by simpa [hsr, htk] using c3) (by simp [hxl]) (by simp) ?_
          try simp 
          repeat (refine PreK.intro (by first | omega | (intros; first | omega | (refine ⟨by omega, ?_⟩; simp_all; done) | (simp_all; done) | (simp_all; omega))) fun _ => ?_; (try simp ))
          refine CondK.ff ?_
          try simp 
          try simp 
          repeat (refine PreK.intro (by first | omega | (intros; first | omega | (refine ⟨by omega, ?_⟩; simp_all; done) | (simp_all; done) | (simp_all; omega))) fun _ => ?_; (try simp ))
          refine CondK.tt ?_
          try simp 
          try simp 
          repeat' (first
            | (refine CallX.pure (c4) (by simp) (by simp) ?_; try simp )
            | (refine CallK.intro (c4) (by simp) (by simp) ?_; try simp )
            | (refine CallG.intro (fun _ => c4) (by simp) (by simp) ?_; try simp )
            | ((with_reducible refine PreK.intro ?_ ?_); (next => (first | omega | (intros; first | omega | (refine ⟨by omega, ?_⟩; repeat (first | assumption | constructor)) | assumption))); intro _; try simp )
            | fail)
          try simp 
          repeat (refine PreK.intro (by first | omega | (intros; first | omega | (refine ⟨by omega, ?_⟩; simp_all; done) | (simp_all; done) | (simp_all; omega))) fun _ => ?_; (try simp ))
          refine CallX.deepT (by simpa [hsr, htk] using c5) (by simp [hxl]) (flat_pairs _) ?_
          try simp 
          repeat (refine PreK.intro (by first | omega | (intros; first | omega | (refine ⟨by omega, ?_⟩; simp_all; done) | (simp_all; done) | (simp_all; omega))) fun _ => ?_; (try simp ))
          have c6' : CallP Try.prog 43 [pairsV (confsM t), pairsV (confsM t)] (bv true) := by simpa using c6
          try simp 
          repeat' (first
            | (refine CallX.pure (c6') (by simp) (by simp) ?_; try simp )
            | (refine CallK.intro (c6') (by simp) (by simp) ?_; try simp )
            | (refine CallG.intro (fun _ => c6') (by simp) (by simp) ?_; try simp )
            | ((with_reducible refine PreK.intro ?_ ?_); (next => (first | omega | (intros; first | omega | (refine ⟨by omega, ?_⟩; repeat (first | assumption | constructor)) | assumption))); intro _; try simp )
            | fail)
          try simp 
          repeat (refine PreK.intro (by first | omega | (intros; first | omega | (refine ⟨by omega, ?_⟩; simp_all; done) | (simp_all; done) | (simp_all; omega))) fun _ => ?_; (try simp ))
          refine CondK.ff ?_
          try simp 
          try simp 
          repeat (refine PreK.intro (by first | omega | (intros; first | omega | (refine ⟨by omega, ?_⟩; simp_all; done) | (simp_all; done) | (simp_all; omega))) fun _ => ?_; (try simp ))
          have hn' : (t.length : Int) = 3 := by omega
          refine LoopK.by (ι := Nat) (fun i => ⟨[(16, iv i), (7, rdsV t), (8, .sl 1008 1 0 3), (0, rdsV t)], (1008, some ⟨1, namX t 3, 1, true⟩) :: rowX t k to 3 3⟩) (fun i => 3 - i) (fun i => i ≤ 3) 0 (Nat.zero_le _) (by simp [namX, rowX, range_succ', leEls_refl]) ?_
          intro i Q' hi hq he hr
          simp [namX, rowX, range_succ']
          by_cases h5 : i < 3
          · have h5' : (i : Int) < 3 := by omega
            try simp [hn, hn', h5, h5']
            repeat (refine PreK.intro (by first | omega | (intros; first | omega | (refine ⟨by omega, ?_⟩; simp_all; done) | (simp_all; done) | (simp_all; omega))) fun _ => ?_; (try simp [hn, hn', h5, h5']))
            refine CondK.tt ?_
            try simp 
            try simp 
            repeat' (first
              | (refine CallX.pure ((c7 i (by omega))) (by simp) (by simp) ?_; try simp )
              | (refine CallK.intro ((c7 i (by omega))) (by simp) (by simp) ?_; try simp )
              | (refine CallG.intro (fun _ => (c7 i (by omega))) (by simp) (by simp) ?_; try simp )
              | ((with_reducible refine PreK.intro ?_ ?_); (next => (first | omega | (intros; first | omega | (refine ⟨by omega, ?_⟩; repeat (first | assumption | constructor)) | assumption))); intro _; try simp )
              | fail)
            try simp 
            repeat (refine PreK.intro (by first | omega | (intros; first | omega | (refine ⟨by omega, ?_⟩; simp_all; done) | (simp_all; done) | (simp_all; omega))) fun _ => ?_; (try simp ))
            refine CallX.deep (by simpa [hsr, htk] using c8 i (by omega)) (by simp [hxl]) (by simp) ?_
            try simp 
            repeat (refine PreK.intro (by first | omega | (intros; first | omega | (refine ⟨by omega, ?_⟩; simp_all; done) | (simp_all; done) | (simp_all; omega))) fun _ => ?_; (try simp ))
            refine CondK.ff ?_
            try simp 
            try simp 
            repeat (refine PreK.intro (by first | omega | (intros; first | omega | (refine ⟨by omega, ?_⟩; simp_all; done) | (simp_all; done) | (simp_all; omega))) fun _ => ?_; (try simp ))
            exact hq (i + 1) _ (by omega) (by omega) (by simp [namX, rowX, range_succ', leEls_refl])
          · have h5' : ¬ (i : Int) < 3 := by omega
            try simp [hn, hn', h5, h5']
            repeat (refine PreK.intro (by first | omega | (intros; first | omega | (refine ⟨by omega, ?_⟩; simp_all; done) | (simp_all; done) | (simp_all; omega))) fun _ => ?_; (try simp [hn, hn', h5, h5']))
            refine CondK.ff ?_
            try simp 
            apply he
            try simp 
            repeat (refine PreK.intro (by first | omega | (intros; first | omega | (refine ⟨by omega, ?_⟩; simp_all; done) | (simp_all; done) | (simp_all; omega))) fun _ => ?_; (try simp ))
            refine LoopK.by (ι := Nat) (fun i => ⟨[(21, iv i), (7, rdsV t), (8, .sl 1008 1 0 3), (0, rdsV t)], (1008, some ⟨1, namX t 3, 1, true⟩) :: rowY t k to 3 i⟩) (fun i => 3 - i) (fun i => i ≤ 3) 0 (Nat.zero_le _) (by simp [namX, rowY, range_succ', leEls_refl]) ?_
            intro i3 Q3 hi3 hq3 he3 hr3
            have hi6 : i3 = 0 ∨ i3 = 1 ∨ i3 = 2 ∨ i3 = 3 := by omega
            rcases hi6 with rfl | rfl | rfl | rfl
            · have hlj := hel 0
              simp [namX, rowY, range_succ']
              try simp 
              repeat (refine PreK.intro (by first | omega | (intros; first | omega | (refine ⟨by omega, ?_⟩; simp_all; done) | (simp_all; done) | (simp_all; omega))) fun _ => ?_; (try simp ))
              refine CondK.intro (fun h6 => ?_) (fun h6 => ?_)
              · try simp 
                repeat (refine PreK.intro (by first | omega | (intros; first | omega | (refine ⟨by omega, ?_⟩; simp_all; done) | (simp_all; done) | (simp_all; omega))) fun _ => ?_; (try simp ))
                refine LoopK.by (ι := Nat) (fun q => ⟨[(22, iv q), (21, iv 0), (7, rdsV t), (8, .sl 1008 1 0 3), (0, rdsV t)], (1008, some ⟨1, namX t 3, 1, true⟩) :: rowZ t k to 3 0 q⟩) (fun q => (el t 0).length - q) (fun q => q ≤ (el t 0).length) 0 (Nat.zero_le _) (by simp [namX, rowZ, range_succ', leEls_refl]) ?_
                intro q Q4 hq4 hqq he4 hr4
                simp [namX, rowZ, range_succ']
                by_cases h7 : q < (el t 0).length
                · have h7' : (q : Int) < (el t 0).length := by omega
                  have hsf := set_fill ((spX t k to 0).map iv) q (by rw [List.length_map, hxl]; exact h7) (AV.raw (.int .i64 (-1)))
                  have hlt : q < q + ((el t 0).length - q) := by omega
                  have hnt := nth_fill (spX t k to 0) q (by rw [hxl]; exact h7) (AV.raw (.int .i64 (-1)))
                  try simp [h7, h7', hxl, hlt, hnt]
                  repeat (refine PreK.intro (by first | omega | (intros; first | omega | (refine ⟨by omega, ?_⟩; simp_all; done) | (simp_all; done) | (simp_all; omega))) fun _ => ?_; (try simp [h7, h7', hxl, hlt, hnt]))
                  refine CondK.tt ?_
                  try simp 
                  try simp [h7, h7', hxl, hlt, hnt, hsf]
                  repeat (refine PreK.intro (by first | omega | (intros; first | omega | (refine ⟨by omega, ?_⟩; simp_all; done) | (simp_all; done) | (simp_all; omega))) fun _ => ?_; (try simp [h7, h7', hxl, hlt, hnt, hsf]))
                  exact hqq (q + 1) _ (by omega) (by omega) (by simp [namX, rowZ, range_succ', hsf, leEls_refl])
                · have hqe : q = (el t 0).length := by omega
                  subst hqe
                  have hdr : List.drop (el t 0).length ((spX t k to 0).map iv) = [] := List.drop_eq_nil_of_le (by rw [List.length_map, hxl]; exact Nat.le_refl _)
                  try simp 
                  repeat (refine PreK.intro (by first | omega | (intros; first | omega | (refine ⟨by omega, ?_⟩; simp_all; done) | (simp_all; done) | (simp_all; omega))) fun _ => ?_; (try simp ))
                  refine CondK.ff ?_
                  try simp 
                  apply he4
                  try simp 
                  repeat (refine PreK.intro (by first | omega | (intros; first | omega | (refine ⟨by omega, ?_⟩; simp_all; done) | (simp_all; done) | (simp_all; omega))) fun _ => ?_; (try simp ))
                  exact hq3 1 _ (by omega) (by omega) (by simp [namX, rowY, range_succ', hdr, leEls_refl])
              · simp at h6
            · have hlj := hel 1
              simp [namX, rowY, range_succ']
              try simp 
              repeat (refine PreK.intro (by first | omega | (intros; first | omega | (refine ⟨by omega, ?_⟩; simp_all; done) | (simp_all; done) | (simp_all; omega))) fun _ => ?_; (try simp ))
              refine CondK.intro (fun h6 => ?_) (fun h6 => ?_)
              · try simp 
                repeat (refine PreK.intro (by first | omega | (intros; first | omega | (refine ⟨by omega, ?_⟩; simp_all; done) | (simp_all; done) | (simp_all; omega))) fun _ => ?_; (try simp ))
                refine LoopK.by (ι := Nat) (fun q => ⟨[(22, iv q), (21, iv 1), (7, rdsV t), (8, .sl 1008 1 0 3), (0, rdsV t)], (1008, some ⟨1, namX t 3, 1, true⟩) :: rowZ t k to 3 1 q⟩) (fun q => (el t 1).length - q) (fun q => q ≤ (el t 1).length) 0 (Nat.zero_le _) (by simp [namX, rowZ, range_succ', leEls_refl]) ?_
                intro q Q4 hq4 hqq he4 hr4
                simp [namX, rowZ, range_succ']
                by_cases h7 : q < (el t 1).length
                · have h7' : (q : Int) < (el t 1).length := by omega
                  have hsf := set_fill ((spX t k to 1).map iv) q (by rw [List.length_map, hxl]; exact h7) (AV.raw (.int .i64 (-1)))
                  have hlt : q < q + ((el t 1).length - q) := by omega
                  have hnt := nth_fill (spX t k to 1) q (by rw [hxl]; exact h7) (AV.raw (.int .i64 (-1)))
                  try simp [h7, h7', hxl, hlt, hnt]
                  repeat (refine PreK.intro (by first | omega | (intros; first | omega | (refine ⟨by omega, ?_⟩; simp_all; done) | (simp_all; done) | (simp_all; omega))) fun _ => ?_; (try simp [h7, h7', hxl, hlt, hnt]))
                  refine CondK.tt ?_
                  try simp 
                  try simp [h7, h7', hxl, hlt, hnt, hsf]
                  repeat (refine PreK.intro (by first | omega | (intros; first | omega | (refine ⟨by omega, ?_⟩; simp_all; done) | (simp_all; done) | (simp_all; omega))) fun _ => ?_; (try simp [h7, h7', hxl, hlt, hnt, hsf]))
                  exact hqq (q + 1) _ (by omega) (by omega) (by simp [namX, rowZ, range_succ', hsf, leEls_refl])
                · have hqe : q = (el t 1).length := by omega
                  subst hqe
                  have hdr : List.drop (el t 1).length ((spX t k to 1).map iv) = [] := List.drop_eq_nil_of_le (by rw [List.length_map, hxl]; exact Nat.le_refl _)
                  try simp 
                  repeat (refine PreK.intro (by first | omega | (intros; first | omega | (refine ⟨by omega, ?_⟩; simp_all; done) | (simp_all; done) | (simp_all; omega))) fun _ => ?_; (try simp ))
                  refine CondK.ff ?_
                  try simp 
                  apply he4
                  try simp 
                  repeat (refine PreK.intro (by first | omega | (intros; first | omega | (refine ⟨by omega, ?_⟩; simp_all; done) | (simp_all; done) | (simp_all; omega))) fun _ => ?_; (try simp ))
                  exact hq3 2 _ (by omega) (by omega) (by simp [namX, rowY, range_succ', hdr, leEls_refl])
              · simp at h6
            · have hlj := hel 2
              simp [namX, rowY, range_succ']
              try simp 
              repeat (refine PreK.intro (by first | omega | (intros; first | omega | (refine ⟨by omega, ?_⟩; simp_all; done) | (simp_all; done) | (simp_all; omega))) fun _ => ?_; (try simp ))
              refine CondK.intro (fun h6 => ?_) (fun h6 => ?_)
              · try simp 
                repeat (refine PreK.intro (by first | omega | (intros; first | omega | (refine ⟨by omega, ?_⟩; simp_all; done) | (simp_all; done) | (simp_all; omega))) fun _ => ?_; (try simp ))
                refine LoopK.by (ι := Nat) (fun q => ⟨[(22, iv q), (21, iv 2), (7, rdsV t), (8, .sl 1008 1 0 3), (0, rdsV t)], (1008, some ⟨1, namX t 3, 1, true⟩) :: rowZ t k to 3 2 q⟩) (fun q => (el t 2).length - q) (fun q => q ≤ (el t 2).length) 0 (Nat.zero_le _) (by simp [namX, rowZ, range_succ', leEls_refl]) ?_
                intro q Q4 hq4 hqq he4 hr4
                simp [namX, rowZ, range_succ']
                by_cases h7 : q < (el t 2).length
                · have h7' : (q : Int) < (el t 2).length := by omega
                  have hsf := set_fill ((spX t k to 2).map iv) q (by rw [List.length_map, hxl]; exact h7) (AV.raw (.int .i64 (-1)))
                  have hlt : q < q + ((el t 2).length - q) := by omega
                  have hnt := nth_fill (spX t k to 2) q (by rw [hxl]; exact h7) (AV.raw (.int .i64 (-1)))
                  try simp [h7, h7', hxl, hlt, hnt]
                  repeat (refine PreK.intro (by first | omega | (intros; first | omega | (refine ⟨by omega, ?_⟩; simp_all; done) | (simp_all; done) | (simp_all; omega))) fun _ => ?_; (try simp [h7, h7', hxl, hlt, hnt]))
                  refine CondK.tt ?_
                  try simp 
                  try simp [h7, h7', hxl, hlt, hnt, hsf]
                  repeat (refine PreK.intro (by first | omega | (intros; first | omega | (refine ⟨by omega, ?_⟩; simp_all; done) | (simp_all; done) | (simp_all; omega))) fun _ => ?_; (try simp [h7, h7', hxl, hlt, hnt, hsf]))
                  exact hqq (q + 1) _ (by omega) (by omega) (by simp [namX, rowZ, range_succ', hsf, leEls_refl])
                · have hqe : q = (el t 2).length := by omega
                  subst hqe
                  have hdr : List.drop (el t 2).length ((spX t k to 2).map iv) = [] := List.drop_eq_nil_of_le (by rw [List.length_map, hxl]; exact Nat.le_refl _)
                  try simp 
                  repeat (refine PreK.intro (by first | omega | (intros; first | omega | (refine ⟨by omega, ?_⟩; simp_all; done) | (simp_all; done) | (simp_all; omega))) fun _ => ?_; (try simp ))
                  refine CondK.ff ?_
                  try simp 
                  apply he4
                  try simp 
                  repeat (refine PreK.intro (by first | omega | (intros; first | omega | (refine ⟨by omega, ?_⟩; simp_all; done) | (simp_all; done) | (simp_all; omega))) fun _ => ?_; (try simp ))
                  exact hq3 3 _ (by omega) (by omega) (by simp [namX, rowY, range_succ', hdr, leEls_refl])
              · simp at h6
            · simp [namX, rowY, range_succ']
              try simp 
              repeat (refine PreK.intro (by first | omega | (intros; first | omega | (refine ⟨by omega, ?_⟩; simp_all; done) | (simp_all; done) | (simp_all; omega))) fun _ => ?_; (try simp ))
              refine CondK.intro (fun h6 => ?_) (fun h6 => ?_)
              · simp at h6
              · apply he3
                try simp 
                repeat' (first
                  | (refine CallX.pure (cown) (by simp) (by simp) ?_; try simp )
                  | (refine CallK.intro (cown) (by simp) (by simp) ?_; try simp )
                  | (refine CallG.intro (fun _ => cown) (by simp) (by simp) ?_; try simp )
                  | ((with_reducible refine PreK.intro ?_ ?_); (next => (first | omega | (intros; first | omega | (refine ⟨by omega, ?_⟩; repeat (first | assumption | constructor)) | assumption))); intro _; try simp )
                  | fail)
                try simp 
                repeat' (first
                  | (refine CallX.pure (sane7_c) (by simp) (by simp) ?_; try simp )
                  | (refine CallK.intro (sane7_c) (by simp) (by simp) ?_; try simp )
                  | (refine CallG.intro (fun _ => sane7_c) (by simp) (by simp) ?_; try simp )
                  | ((with_reducible refine PreK.intro ?_ ?_); (next => (first | omega | (intros; first | omega | (refine ⟨by omega, ?_⟩; repeat (first | assumption | constructor)) | assumption))); intro _; try simp )
                  | fail)
        · rw [hn] at cs hsr c7 c8
          simp only [namX, rowX] at cs
          simp only [range_succ', List.range_zero, List.nil_append, List.map_append, List.map_cons, List.map_nil, List.cons_append] at hsr
          refine CallX.mem 0 cs (by simp) (by simp [range_succ']) (by simp [range_succ']) ?_
          simp [range_succ']
          try simp 
          repeat (refine PreK.intro (by first | omega | (intros; first | omega | (refine ⟨by omega, ?_⟩; simp_all; done) | (simp_all; done) | (simp_all; omega))) fun _ => ?_; (try simp ))
          try simp 
          repeat' (first
            | (refine CallX.pure (c2) (by simp) (by simp) ?_; try simp )
            | (refine CallK.intro (c2) (by simp) (by simp) ?_; try simp )
            | (refine CallG.intro (fun _ => c2) (by simp) (by simp) ?_; try simp )
            | ((with_reducible refine PreK.intro ?_ ?_); (next => (first | omega | (intros; first | omega | (refine ⟨by omega, ?_⟩; repeat (first | assumption | constructor)) | assumption))); intro _; try simp )
            | fail)
          try simp 
          repeat (refine PreK.intro (by first | omega | (intros; first | omega | (refine ⟨by omega, ?_⟩; simp_all; done) | (simp_all; done) | (simp_all; omega))) fun _ => ?_; (try simp ))
          refine CallX.deep (r := bv true) (by simpa [hsr, htk] using c3) (by simp [hxl]) (by simp) ?_
          try simp 
          repeat (refine PreK.intro (by first | omega | (intros; first | omega | (refine ⟨by omega, ?_⟩; simp_all; done) | (simp_all; done) | (simp_all; omega))) fun _ => ?_; (try simp ))
          refine CondK.ff ?_
          try simp 
          try simp 
          repeat (refine PreK.intro (by first | omega | (intros; first | omega | (refine ⟨by omega, ?_⟩; simp_all; done) | (simp_all; done) | (simp_all; omega))) fun _ => ?_; (try simp ))
          refine CondK.tt ?_
          try simp 
          try simp 
          repeat' (first
            | (refine CallX.pure (c4) (by simp) (by simp) ?_; try simp )
            | (refine CallK.intro (c4) (by simp) (by simp) ?_; try simp )
            | (refine CallG.intro (fun _ => c4) (by simp) (by simp) ?_; try simp )
            | ((with_reducible refine PreK.intro ?_ ?_); (next => (first | omega | (intros; first | omega | (refine ⟨by omega, ?_⟩; repeat (first | assumption | constructor)) | assumption))); intro _; try simp )
            | fail)
          try simp 
          repeat (refine PreK.intro (by first | omega | (intros; first | omega | (refine ⟨by omega, ?_⟩; simp_all; done) | (simp_all; done) | (simp_all; omega))) fun _ => ?_; (try simp ))
          refine CallX.deepT (by simpa [hsr, htk] using c5) (by simp [hxl]) (flat_pairs _) ?_
          try simp 
          repeat (refine PreK.intro (by first | omega | (intros; first | omega | (refine ⟨by omega, ?_⟩; simp_all; done) | (simp_all; done) | (simp_all; omega))) fun _ => ?_; (try simp ))
          have c6' : CallP Try.prog 43 [pairsV (confsM t), pairsV (confsM t)] (bv true) := by simpa using c6
          try simp 
          repeat' (first
            | (refine CallX.pure (c6') (by simp) (by simp) ?_; try simp )
            | (refine CallK.intro (c6') (by simp) (by simp) ?_; try simp )
            | (refine CallG.intro (fun _ => c6') (by simp) (by simp) ?_; try simp )
            | ((with_reducible refine PreK.intro ?_ ?_); (next => (first | omega | (intros; first | omega | (refine ⟨by omega, ?_⟩; repeat (first | assumption | constructor)) | assumption))); intro _; try simp )
            | fail)
          try simp 
          repeat (refine PreK.intro (by first | omega | (intros; first | omega | (refine ⟨by omega, ?_⟩; simp_all; done) | (simp_all; done) | (simp_all; omega))) fun _ => ?_; (try simp ))
          refine CondK.ff ?_
          try simp 
          try simp 
          repeat (refine PreK.intro (by first | omega | (intros; first | omega | (refine ⟨by omega, ?_⟩; simp_all; done) | (simp_all; done) | (simp_all; omega))) fun _ => ?_; (try simp ))
          have hn' : (t.length : Int) = 4 := by omega
          refine LoopK.by (ι := Nat) (fun i => ⟨[(16, iv i), (7, rdsV t), (8, .sl 1008 1 0 4), (0, rdsV t)], (1008, some ⟨1, namX t 4, 1, true⟩) :: rowX t k to 4 4⟩) (fun i => 4 - i) (fun i => i ≤ 4) 0 (Nat.zero_le _) (by simp [namX, rowX, range_succ', leEls_refl]) ?_
          intro i Q' hi hq he hr
          simp [namX, rowX, range_succ']
          by_cases h5 : i < 4
          · have h5' : (i : Int) < 4 := by omega
            try simp [hn, hn', h5, h5']
            repeat (refine PreK.intro (by first | omega | (intros; first | omega | (refine ⟨by omega, ?_⟩; simp_all; done) | (simp_all; done) | (simp_all; omega))) fun _ => ?_; (try simp [hn, hn', h5, h5']))
            refine CondK.tt ?_
            try simp 
            try simp 
            repeat' (first
              | (refine CallX.pure ((c7 i (by omega))) (by simp) (by simp) ?_; try simp )
              | (refine CallK.intro ((c7 i (by omega))) (by simp) (by simp) ?_; try simp )
              | (refine CallG.intro (fun _ => (c7 i (by omega))) (by simp) (by simp) ?_; try simp )
              | ((with_reducible refine PreK.intro ?_ ?_); (next => (first | omega | (intros; first | omega | (refine ⟨by omega, ?_⟩; repeat (first | assumption | constructor)) | assumption))); intro _; try simp )
              | fail)
            try simp 
            repeat (refine PreK.intro (by first | omega | (intros; first | omega | (refine ⟨by omega, ?_⟩; simp_all; done) | (simp_all; done) | (simp_all; omega))) fun _ => ?_; (try simp ))
            refine CallX.deep (by simpa [hsr, htk] using c8 i (by omega)) (by simp [hxl]) (by simp) ?_
            try simp 
            repeat (refine PreK.intro (by first | omega | (intros; first | omega | (refine ⟨by omega, ?_⟩; simp_all; done) | (simp_all; done) | (simp_all; omega))) fun _ => ?_; (try simp ))
            refine CondK.ff ?_
            try simp 
            try simp 
            repeat (refine PreK.intro (by first | omega | (intros; first | omega | (refine ⟨by omega, ?_⟩; simp_all; done) | (simp_all; done) | (simp_all; omega))) fun _ => ?_; (try simp ))
            exact hq (i + 1) _ (by omega) (by omega) (by simp [namX, rowX, range_succ', leEls_refl])
          · have h5' : ¬ (i : Int) < 4 := by omega
            try simp [hn, hn', h5, h5']
            repeat (refine PreK.intro (by first | omega | (intros; first | omega | (refine ⟨by omega, ?_⟩; simp_all; done) | (simp_all; done) | (simp_all; omega))) fun _ => ?_; (try simp [hn, hn', h5, h5']))
            refine CondK.ff ?_
            try simp 
            apply he
            try simp 
            repeat (refine PreK.intro (by first | omega | (intros; first | omega | (refine ⟨by omega, ?_⟩; simp_all; done) | (simp_all; done) | (simp_all; omega))) fun _ => ?_; (try simp ))
            refine LoopK.by (ι := Nat) (fun i => ⟨[(21, iv i), (7, rdsV t), (8, .sl 1008 1 0 4), (0, rdsV t)], (1008, some ⟨1, namX t 4, 1, true⟩) :: rowY t k to 4 i⟩) (fun i => 4 - i) (fun i => i ≤ 4) 0 (Nat.zero_le _) (by simp [namX, rowY, range_succ', leEls_refl]) ?_
            intro i3 Q3 hi3 hq3 he3 hr3
            have hi6 : i3 = 0 ∨ i3 = 1 ∨ i3 = 2 ∨ i3 = 3 ∨ i3 = 4 := by omega
            rcases hi6 with rfl | rfl | rfl | rfl | rfl
            · have hlj := hel 0
              simp [namX, rowY, range_succ']
              try simp 
              repeat (refine PreK.intro (by first | omega | (intros; first | omega | (refine ⟨by omega, ?_⟩; simp_all; done) | (simp_all; done) | (simp_all; omega))) fun _ => ?_; (try simp ))
              refine CondK.intro (fun h6 => ?_) (fun h6 => ?_)
              · try simp 
                repeat (refine PreK.intro (by first | omega | (intros; first | omega | (refine ⟨by omega, ?_⟩; simp_all; done) | (simp_all; done) | (simp_all; omega))) fun _ => ?_; (try simp ))
                refine LoopK.by (ι := Nat) (fun q => ⟨[(22, iv q), (21, iv 0), (7, rdsV t), (8, .sl 1008 1 0 4), (0, rdsV t)], (1008, some ⟨1, namX t 4, 1, true⟩) :: rowZ t k to 4 0 q⟩) (fun q => (el t 0).length - q) (fun q => q ≤ (el t 0).length) 0 (Nat.zero_le _) (by simp [namX, rowZ, range_succ', leEls_refl]) ?_
                intro q Q4 hq4 hqq he4 hr4
                simp [namX, rowZ, range_succ']
                by_cases h7 : q < (el t 0).length
                · have h7' : (q : Int) < (el t 0).length := by omega
                  have hsf := set_fill ((spX t k to 0).map iv) q (by rw [List.length_map, hxl]; exact h7) (AV.raw (.int .i64 (-1)))
                  have hlt : q < q + ((el t 0).length - q) := by omega
                  have hnt := nth_fill (spX t k to 0) q (by rw [hxl]; exact h7) (AV.raw (.int .i64 (-1)))
                  try simp [h7, h7', hxl, hlt, hnt]
                  repeat (refine PreK.intro (by first | omega | (intros; first | omega | (refine ⟨by omega, ?_⟩; simp_all; done) | (simp_all; done) | (simp_all; omega))) fun _ => ?_; (try simp [h7, h7', hxl, hlt, hnt]))
                  refine CondK.tt ?_
                  try simp 
                  try simp [h7, h7', hxl, hlt, hnt, hsf]
                  repeat (refine PreK.intro (by first | omega | (intros; first | omega | (refine ⟨by omega, ?_⟩; simp_all; done) | (simp_all; done) | (simp_all; omega))) fun _ => ?_; (try simp [h7, h7', hxl, hlt, hnt, hsf]))
                  exact hqq (q + 1) _ (by omega) (by omega) (by simp [namX, rowZ, range_succ', hsf, leEls_refl])
                · have hqe : q = (el t 0).length := by omega
                  subst hqe
                  have hdr : List.drop (el t 0).length ((spX t k to 0).map iv) = [] := List.drop_eq_nil_of_le (by rw [List.length_map, hxl]; exact Nat.le_refl _)
                  try simp 
                  repeat (refine PreK.intro (by first | omega | (intros; first | omega | (refine ⟨by omega, ?_⟩; simp_all; done) | (simp_all; done) | (simp_all; omega))) fun _ => ?_; (try simp ))
                  refine CondK.ff ?_
                  try simp 
                  apply he4
                  try simp 
                  repeat (refine PreK.intro (by first | omega | (intros; first | omega | (refine ⟨by omega, ?_⟩; simp_all; done) | (simp_all; done) | (simp_all; omega))) fun _ => ?_; (try simp ))
                  exact hq3 1 _ (by omega) (by omega) (by simp [namX, rowY, range_succ', hdr, leEls_refl])
              · simp at h6
            · have hlj := hel 1
              simp [namX, rowY, range_succ']
              try simp 
              repeat (refine PreK.intro (by first | omega | (intros; first | omega | (refine ⟨by omega, ?_⟩; simp_all; done) | (simp_all; done) | (simp_all; omega))) fun _ => ?_; (try simp ))
              refine CondK.intro (fun h6 => ?_) (fun h6 => ?_)
              · try simp 
                repeat (refine PreK.intro (by first | omega | (intros; first | omega | (refine ⟨by omega, ?_⟩; simp_all; done) | (simp_all; done) | (simp_all; omega))) fun _ => ?_; (try simp ))
                refine LoopK.by (ι := Nat) (fun q => ⟨[(22, iv q), (21, iv 1), (7, rdsV t), (8, .sl 1008 1 0 4), (0, rdsV t)], (1008, some ⟨1, namX t 4, 1, true⟩) :: rowZ t k to 4 1 q⟩) (fun q => (el t 1).length - q) (fun q => q ≤ (el t 1).length) 0 (Nat.zero_le _) (by simp [namX, rowZ, range_succ', leEls_refl]) ?_
                intro q Q4 hq4 hqq he4 hr4
                simp [namX, rowZ, range_succ']
                by_cases h7 : q < (el t 1).length
                · have h7' : (q : Int) < (el t 1).length := by omega
                  have hsf := set_fill ((spX t k to 1).map iv) q (by rw [List.length_map, hxl]; exact h7) (AV.raw (.int .i64 (-1)))
                  have hlt : q < q + ((el t 1).length - q) := by omega
                  have hnt := nth_fill (spX t k to 1) q (by rw [hxl]; exact h7) (AV.raw (.int .i64 (-1)))
                  try simp [h7, h7', hxl, hlt, hnt]
                  repeat (refine PreK.intro (by first | omega | (intros; first | omega | (refine ⟨by omega, ?_⟩; simp_all; done) | (simp_all; done) | (simp_all; omega))) fun _ => ?_; (try simp [h7, h7', hxl, hlt, hnt]))
                  refine CondK.tt ?_
                  try simp 
                  try simp [h7, h7', hxl, hlt, hnt, hsf]
                  repeat (refine PreK.intro (by first | omega | (intros; first | omega | (refine ⟨by omega, ?_⟩; simp_all; done) | (simp_all; done) | (simp_all; omega))) fun _ => ?_; (try simp [h7, h7', hxl, hlt, hnt, hsf]))
                  exact hqq (q + 1) _ (by omega) (by omega) (by simp [namX, rowZ, range_succ', hsf, leEls_refl])
                · have hqe : q = (el t 1).length := by omega
                  subst hqe
                  have hdr : List.drop (el t 1).length ((spX t k to 1).map iv) = [] := List.drop_eq_nil_of_le (by rw [List.length_map, hxl]; exact Nat.le_refl _)
                  try simp 
                  repeat (refine PreK.intro (by first | omega | (intros; first | omega | (refine ⟨by omega, ?_⟩; simp_all; done) | (simp_all; done) | (simp_all; omega))) fun _ => ?_; (try simp ))
                  refine CondK.ff ?_
                  try simp 
                  apply he4
                  try simp 
                  repeat (refine PreK.intro (by first | omega | (intros; first | omega | (refine ⟨by omega, ?_⟩; simp_all; done) | (simp_all; done) | (simp_all; omega))) fun _ => ?_; (try simp ))
                  exact hq3 2 _ (by omega) (by omega) (by simp [namX, rowY, range_succ', hdr, leEls_refl])
              · simp at h6
            · have hlj := hel 2
              simp [namX, rowY, range_succ']
              try simp 
              repeat (refine PreK.intro (by first | omega | (intros; first | omega | (refine ⟨by omega, ?_⟩; simp_all; done) | (simp_all; done) | (simp_all; omega))) fun _ => ?_; (try simp ))
              refine CondK.intro (fun h6 => ?_) (fun h6 => ?_)
              · try simp 
                repeat (refine PreK.intro (by first | omega | (intros; first | omega | (refine ⟨by omega, ?_⟩; simp_all; done) | (simp_all; done) | (simp_all; omega))) fun _ => ?_; (try simp ))
                refine LoopK.by (ι := Nat) (fun q => ⟨[(22, iv q), (21, iv 2), (7, rdsV t), (8, .sl 1008 1 0 4), (0, rdsV t)], (1008, some ⟨1, namX t 4, 1, true⟩) :: rowZ t k to 4 2 q⟩) (fun q => (el t 2).length - q) (fun q => q ≤ (el t 2).length) 0 (Nat.zero_le _) (by simp [namX, rowZ, range_succ', leEls_refl]) ?_
                intro q Q4 hq4 hqq he4 hr4
                simp [namX, rowZ, range_succ']
                by_cases h7 : q < (el t 2).length
                · have h7' : (q : Int) < (el t 2).length := by omega
                  have hsf := set_fill ((spX t k to 2).map iv) q (by rw [List.length_map, hxl]; exact h7) (AV.raw (.int .i64 (-1)))
                  have hlt : q < q + ((el t 2).length - q) := by omega
                  have hnt := nth_fill (spX t k to 2) q (by rw [hxl]; exact h7) (AV.raw (.int .i64 (-1)))
                  try simp [h7, h7', hxl, hlt, hnt]
                  repeat (refine PreK.intro (by first | omega | (intros; first | omega | (refine ⟨by omega, ?_⟩; simp_all; done) | (simp_all; done) | (simp_all; omega))) fun _ => ?_; (try simp [h7, h7', hxl, hlt, hnt]))
                  refine CondK.tt ?_
                  try simp 
                  try simp [h7, h7', hxl, hlt, hnt, hsf]
                  repeat (refine PreK.intro (by first | omega | (intros; first | omega | (refine ⟨by omega, ?_⟩; simp_all; done) | (simp_all; done) | (simp_all; omega))) fun _ => ?_; (try simp [h7, h7', hxl, hlt, hnt, hsf]))
                  exact hqq (q + 1) _ (by omega) (by omega) (by simp [namX, rowZ, range_succ', hsf, leEls_refl])
                · have hqe : q = (el t 2).length := by omega
                  subst hqe
                  have hdr : List.drop (el t 2).length ((spX t k to 2).map iv) = [] := List.drop_eq_nil_of_le (by rw [List.length_map, hxl]; exact Nat.le_refl _)
                  try simp 
                  repeat (refine PreK.intro (by first | omega | (intros; first | omega | (refine ⟨by omega, ?_⟩; simp_all; done) | (simp_all; done) | (simp_all; omega))) fun _ => ?_; (try simp ))
                  refine CondK.ff ?_
                  try simp 
                  apply he4
                  try simp 
                  repeat (refine PreK.intro (by first | omega | (intros; first | omega | (refine ⟨by omega, ?_⟩; simp_all; done) | (simp_all; done) | (simp_all; omega))) fun _ => ?_; (try simp ))
                  exact hq3 3 _ (by omega) (by omega) (by simp [namX, rowY, range_succ', hdr, leEls_refl])
              · simp at h6
            · have hlj := hel 3
              simp [namX, rowY, range_succ']
              try simp 
              repeat (refine PreK.intro (by first | omega | (intros; first | omega | (refine ⟨by omega, ?_⟩; simp_all; done) | (simp_all; done) | (simp_all; omega))) fun _ => ?_; (try simp ))
              refine CondK.intro (fun h6 => ?_) (fun h6 => ?_)
              · try simp 
                repeat (refine PreK.intro (by first | omega | (intros; first | omega | (refine ⟨by omega, ?_⟩; simp_all; done) | (simp_all; done) | (simp_all; omega))) fun _ => ?_; (try simp ))
                refine LoopK.by (ι := Nat) (fun q => ⟨[(22, iv q), (21, iv 3), (7, rdsV t), (8, .sl 1008 1 0 4), (0, rdsV t)], (1008, some ⟨1, namX t 4, 1, true⟩) :: rowZ t k to 4 3 q⟩) (fun q => (el t 3).length - q) (fun q => q ≤ (el t 3).length) 0 (Nat.zero_le _) (by simp [namX, rowZ, range_succ', leEls_refl]) ?_
                intro q Q4 hq4 hqq he4 hr4
                simp [namX, rowZ, range_succ']
                by_cases h7 : q < (el t 3).length
                · have h7' : (q : Int) < (el t 3).length := by omega
                  have hsf := set_fill ((spX t k to 3).map iv) q (by rw [List.length_map, hxl]; exact h7) (AV.raw (.int .i64 (-1)))
                  have hlt : q < q + ((el t 3).length - q) := by omega
                  have hnt := nth_fill (spX t k to 3) q (by rw [hxl]; exact h7) (AV.raw (.int .i64 (-1)))
                  try simp [h7, h7', hxl, hlt, hnt]
                  repeat (refine PreK.intro (by first | omega | (intros; first | omega | (refine ⟨by omega, ?_⟩; simp_all; done) | (simp_all; done) | (simp_all; omega))) fun _ => ?_; (try simp [h7, h7', hxl, hlt, hnt]))
                  refine CondK.tt ?_
                  try simp 
                  try simp [h7, h7', hxl, hlt, hnt, hsf]
                  repeat (refine PreK.intro (by first | omega | (intros; first | omega | (refine ⟨by omega, ?_⟩; simp_all; done) | (simp_all; done) | (simp_all; omega))) fun _ => ?_; (try simp [h7, h7', hxl, hlt, hnt, hsf]))
                  exact hqq (q + 1) _ (by omega) (by omega) (by simp [namX, rowZ, range_succ', hsf, leEls_refl])
                · have hqe : q = (el t 3).length := by omega
                  subst hqe
                  have hdr : List.drop (el t 3).length ((spX t k to 3).map iv) = [] := List.drop_eq_nil_of_le (by rw [List.length_map, hxl]; exact Nat.le_refl _)
                  try simp 
                  repeat (refine PreK.intro (by first | omega | (intros; first | omega | (refine ⟨by omega, ?_⟩; simp_all; done) | (simp_all; done) | (simp_all; omega))) fun _ => ?_; (try simp ))
                  refine CondK.ff ?_
                  try simp 
                  apply he4
                  try simp 
                  repeat (refine PreK.intro (by first | omega | (intros; first | omega | (refine ⟨by omega, ?_⟩; simp_all; done) | (simp_all; done) | (simp_all; omega))) fun _ => ?_; (try simp ))
                  exact hq3 4 _ (by omega) (by omega) (by simp [namX, rowY, range_succ', hdr, leEls_refl])
              · simp at h6
            · simp [namX, rowY, range_succ']
              try simp 
              repeat (refine PreK.intro (by first | omega | (intros; first | omega | (refine ⟨by omega, ?_⟩; simp_all; done) | (simp_all; done) | (simp_all; omega))) fun _ => ?_; (try simp ))
              refine CondK.intro (fun h6 => ?_) (fun h6 => ?_)
              · simp at h6
              · apply he3
                try simp 
                repeat' (first
                  | (refine CallX.pure (cown) (by simp) (by simp) ?_; try simp )
                  | (refine CallK.intro (cown) (by simp) (by simp) ?_; try simp )
                  | (refine CallG.intro (fun _ => cown) (by simp) (by simp) ?_; try simp )
                  | ((with_reducible refine PreK.intro ?_ ?_); (next => (first | omega | (intros; first | omega | (refine ⟨by omega, ?_⟩; repeat (first | assumption | constructor)) | assumption))); intro _; try simp )
                  | fail)
                try simp 
                repeat' (first
                  | (refine CallX.pure (sane7_c) (by simp) (by simp) ?_; try simp )
                  | (refine CallK.intro (sane7_c) (by simp) (by simp) ?_; try simp )
                  | (refine CallG.intro (fun _ => sane7_c) (by simp) (by simp) ?_; try simp )
                  | ((with_reducible refine PreK.intro ?_ ?_); (next => (first | omega | (intros; first | omega | (refine ⟨by omega, ?_⟩; repeat (first | assumption | constructor)) | assumption))); intro _; try simp )
                  | fail)
        · rw [hn] at cs hsr c7 c8
          simp only [namX, rowX] at cs
          simp only [range_succ', List.range_zero, List.nil_append, List.map_append, List.map_cons, List.map_nil, List.cons_append] at hsr
          refine CallX.mem 0 cs (by simp) (by simp [range_succ']) (by simp [range_succ']) ?_
          simp [range_succ']
          try simp 
          repeat (refine PreK.intro (by first | omega | (intros; first | omega | (refine ⟨by omega, ?_⟩; simp_all; done) | (simp_all; done) | (simp_all; omega))) fun _ => ?_; (try simp ))
          try simp 
          repeat' (first
            | (refine CallX.pure (c2) (by simp) (by simp) ?_; try simp )
            | (refine CallK.intro (c2) (by simp) (by simp) ?_; try simp )
            | (refine CallG.intro (fun _ => c2) (by simp) (by simp) ?_; try simp )
            | ((with_reducible refine PreK.intro ?_ ?_); (next => (first | omega | (intros; first | omega | (refine ⟨by omega, ?_⟩; repeat (first | assumption | constructor)) | assumption))); intro _; try simp )
            | fail)
          try simp 
          repeat (refine PreK.intro (by first | omega | (intros; first | omega | (refine ⟨by omega, ?_⟩; simp_all; done) | (simp_all; done) | (simp_all; omega))) fun _ => ?_; (try simp ))
          refine CallX.deep (r := bv true) (by simpa [hsr, htk] using c3) (by simp [hxl]) (by simp) ?_
          try simp 
          repeat (refine PreK.intro (by first | omega | (intros; first | omega | (refine ⟨by omega, ?_⟩; simp_all; done) | (simp_all; done) | (simp_all; omega))) fun _ => ?_; (try simp ))
          refine CondK.ff ?_
          try simp 
          try simp 
          repeat (refine PreK.intro (by first | omega | (intros; first | omega | (refine ⟨by omega, ?_⟩; simp_all; done) | (simp_all; done) | (simp_all; omega))) fun _ => ?_; (try simp ))
          refine CondK.tt ?_
          try simp 
          try simp 
          repeat' (first
            | (refine CallX.pure (c4) (by simp) (by simp) ?_; try simp )
            | (refine CallK.intro (c4) (by simp) (by simp) ?_; try simp )
            | (refine CallG.intro (fun _ => c4) (by simp) (by simp) ?_; try simp )
            | ((with_reducible refine PreK.intro ?_ ?_); (next => (first | omega | (intros; first | omega | (refine ⟨by omega, ?_⟩; repeat (first | assumption | constructor)) | assumption))); intro _; try simp )
            | fail)
          try simp 
          repeat (refine PreK.intro (by first | omega | (intros; first | omega | (refine ⟨by omega, ?_⟩; simp_all; done) | (simp_all; done) | (simp_all; omega))) fun _ => ?_; (try simp ))
          refine CallX.deepT (by simpa [hsr, htk] using c5) (by simp [hxl]) (flat_pairs _) ?_
          try simp 
          repeat (refine PreK.intro (by first | omega | (intros; first | omega | (refine ⟨by omega, ?_⟩; simp_all; done) | (simp_all; done) | (simp_all; omega))) fun _ => ?_; (try simp ))
          have c6' : CallP Try.prog 43 [pairsV (confsM t), pairsV (confsM t)] (bv true) := by simpa using c6
          try simp 
          repeat' (first
            | (refine CallX.pure (c6') (by simp) (by simp) ?_; try simp )
            | (refine CallK.intro (c6') (by simp) (by simp) ?_; try simp )
            | (refine CallG.intro (fun _ => c6') (by simp) (by simp) ?_; try simp )
            | ((with_reducible refine PreK.intro ?_ ?_); (next => (first | omega | (intros; first | omega | (refine ⟨by omega, ?_⟩; repeat (first | assumption | constructor)) | assumption))); intro _; try simp )
            | fail)
          try simp 
          repeat (refine PreK.intro (by first | omega | (intros; first | omega | (refine ⟨by omega, ?_⟩; simp_all; done) | (simp_all; done) | (simp_all; omega))) fun _ => ?_; (try simp ))
          refine CondK.ff ?_
          try simp 
          try simp 
          repeat (refine PreK.intro (by first | omega | (intros; first | omega | (refine ⟨by omega, ?_⟩; simp_all; done) | (simp_all; done) | (simp_all; omega))) fun _ => ?_; (try simp ))
          have hn' : (t.length : Int) = 5 := by omega
          refine LoopK.by (ι := Nat) (fun i => ⟨[(16, iv i), (7, rdsV t), (8, .sl 1008 1 0 5), (0, rdsV t)], (1008, some ⟨1, namX t 5, 1, true⟩) :: rowX t k to 5 5⟩) (fun i => 5 - i) (fun i => i ≤ 5) 0 (Nat.zero_le _) (by simp [namX, rowX, range_succ', leEls_refl]) ?_
          intro i Q' hi hq he hr
          simp [namX, rowX, range_succ']
          by_cases h5 : i < 5
          · have h5' : (i : Int) < 5 := by omega
            try simp [hn, hn', h5, h5']
            repeat (refine PreK.intro (by first | omega | (intros; first | omega | (refine ⟨by omega, ?_⟩; simp_all; done) | (simp_all; done) | (simp_all; omega))) fun _ => ?_; (try simp [hn, hn', h5, h5']))
            refine CondK.tt ?_
            try simp 
            try simp 
            repeat' (first
              | (refine CallX.pure ((c7 i (by omega))) (by simp) (by simp) ?_; try simp )
              | (refine CallK.intro ((c7 i (by omega))) (by simp) (by simp) ?_; try simp )
              | (refine CallG.intro (fun _ => (c7 i (by omega))) (by simp) (by simp) ?_; try simp )
              | ((with_reducible refine PreK.intro ?_ ?_); (next => (first | omega | (intros; first | omega | (refine ⟨by omega, ?_⟩; repeat (first | assumption | constructor)) | assumption))); intro _; try simp )
              | fail)
            try simp 
            repeat (refine PreK.intro (by first | omega | (intros; first | omega | (refine ⟨by omega, ?_⟩; simp_all; done) | (simp_all; done) | (simp_all; omega))) fun _ => ?_; (try simp ))
            refine CallX.deep (by simpa [hsr, htk] using c8 i (by omega)) (by simp [hxl]) (by simp) ?_
            try simp 
            repeat (refine PreK.intro (by first | omega | (intros; first | omega | (refine ⟨by omega, ?_⟩; simp_all; done) | (simp_all; done) | (simp_all; omega))) fun _ => ?_; (try simp ))
            refine CondK.ff ?_
            try simp 
            try simp 
            repeat (refine PreK.intro (by first | omega | (intros; first | omega | (refine ⟨by omega, ?_⟩; simp_all; done) | (simp_all; done) | (simp_all; omega))) fun _ => ?_; (try simp ))
            exact hq (i + 1) _ (by omega) (by omega) (by simp [namX, rowX, range_succ', leEls_refl])
          · have h5' : ¬ (i : Int) < 5 := by omega
            try simp [hn, hn', h5, h5']
            repeat (refine PreK.intro (by first | omega | (intros; first | omega | (refine ⟨by omega, ?_⟩; simp_all; done) | (simp_all; done) | (simp_all; omega))) fun _ => ?_; (try simp [hn, hn', h5, h5']))
            refine CondK.ff ?_
            try simp 
            apply he
            try simp 
            repeat (refine PreK.intro (by first | omega | (intros; first | omega | (refine ⟨by omega, ?_⟩; simp_all; done) | (simp_all; done) | (simp_all; omega))) fun _ => ?_; (try simp ))
            refine LoopK.by (ι := Nat) (fun i => ⟨[(21, iv i), (7, rdsV t), (8, .sl 1008 1 0 5), (0, rdsV t)], (1008, some ⟨1, namX t 5, 1, true⟩) :: rowY t k to 5 i⟩) (fun i => 5 - i) (fun i => i ≤ 5) 0 (Nat.zero_le _) (by simp [namX, rowY, range_succ', leEls_refl]) ?_
            intro i3 Q3 hi3 hq3 he3 hr3
            have hi6 : i3 = 0 ∨ i3 = 1 ∨ i3 = 2 ∨ i3 = 3 ∨ i3 = 4 ∨ i3 = 5 := by omega
            rcases hi6 with rfl | rfl | rfl | rfl | rfl | rfl
            · have hlj := hel 0
              simp [namX, rowY, range_succ']
              try simp 
              repeat (refine PreK.intro (by first | omega | (intros; first | omega | (refine ⟨by omega, ?_⟩; simp_all; done) | (simp_all; done) | (simp_all; omega))) fun _ => ?_; (try simp ))
              refine CondK.intro (fun h6 => ?_) (fun h6 => ?_)
              · try simp 
                repeat (refine PreK.intro (by first | omega | (intros; first | omega | (refine ⟨by omega, ?_⟩; simp_all; done) | (simp_all; done) | (simp_all; omega))) fun _ => ?_; (try simp ))
                refine LoopK.by (ι := Nat) (fun q => ⟨[(22, iv q), (21, iv 0), (7, rdsV t), (8, .sl 1008 1 0 5), (0, rdsV t)], (1008, some ⟨1, namX t 5, 1, true⟩) :: rowZ t k to 5 0 q⟩) (fun q => (el t 0).length - q) (fun q => q ≤ (el t 0).length) 0 (Nat.zero_le _) (by simp [namX, rowZ, range_succ', leEls_refl]) ?_
                intro q Q4 hq4 hqq he4 hr4
                simp [namX, rowZ, range_succ']
                by_cases h7 : q < (el t 0).length
                · have h7' : (q : Int) < (el t 0).length := by omega
                  have hsf := set_fill ((spX t k to 0).map iv) q (by rw [List.length_map, hxl]; exact h7) (AV.raw (.int .i64 (-1)))
                  have hlt : q < q + ((el t 0).length - q) := by omega
                  have hnt := nth_fill (spX t k to 0) q (by rw [hxl]; exact h7) (AV.raw (.int .i64 (-1)))
                  try simp [h7, h7', hxl, hlt, hnt]
                  repeat (refine PreK.intro (by first | omega | (intros; first | omega | (refine ⟨by omega, ?_⟩; simp_all; done) | (simp_all; done) | (simp_all; omega))) fun _ => ?_; (try simp [h7, h7', hxl, hlt, hnt]))
                  refine CondK.tt ?_
                  try simp 
                  try simp [h7, h7', hxl, hlt, hnt, hsf]
                  repeat (refine PreK.intro (by first | omega | (intros; first | omega | (refine ⟨by omega, ?_⟩; simp_all; done) | (simp_all; done) | (simp_all; omega))) fun _ => ?_; (try simp [h7, h7', hxl, hlt, hnt, hsf]))
                  exact hqq (q + 1) _ (by omega) (by omega) (by simp [namX, rowZ, range_succ', hsf, leEls_refl])
                · have hqe : q = (el t 0).length := by omega
                  subst hqe
                  have hdr : List.drop (el t 0).length ((spX t k to 0).map iv) = [] := List.drop_eq_nil_of_le (by rw [List.length_map, hxl]; exact Nat.le_refl _)
                  try simp 
                  repeat (refine PreK.intro (by first | omega | (intros; first | omega | (refine ⟨by omega, ?_⟩; simp_all; done) | (simp_all; done) | (simp_all; omega))) fun _ => ?_; (try simp ))
                  refine CondK.ff ?_
                  try simp 
                  apply he4
                  try simp 
                  repeat (refine PreK.intro (by first | omega | (intros; first | omega | (refine ⟨by omega, ?_⟩; simp_all; done) | (simp_all; done) | (simp_all; omega))) fun _ => ?_; (try simp ))
                  exact hq3 1 _ (by omega) (by omega) (by simp [namX, rowY, range_succ', hdr, leEls_refl])
              · simp at h6
            · have hlj := hel 1
              simp [namX, rowY, range_succ']
              try simp 
              repeat (refine PreK.intro (by first | omega | (intros; first | omega | (refine ⟨by omega, ?_⟩; simp_all; done) | (simp_all; done) | (simp_all; omega))) fun _ => ?_; (try simp ))
              refine CondK.intro (fun h6 => ?_) (fun h6 => ?_)
              · try simp 
                repeat (refine PreK.intro (by first | omega | (intros; first | omega | (refine ⟨by omega, ?_⟩; simp_all; done) | (simp_all; done) | (simp_all; omega))) fun _ => ?_; (try simp ))
                refine LoopK.by (ι := Nat) (fun q => ⟨[(22, iv q), (21, iv 1), (7, rdsV t), (8, .sl 1008 1 0 5), (0, rdsV t)], (1008, some ⟨1, namX t 5, 1, true⟩) :: rowZ t k to 5 1 q⟩) (fun q => (el t 1).length - q) (fun q => q ≤ (el t 1).length) 0 (Nat.zero_le _) (by simp [namX, rowZ, range_succ', leEls_refl]) ?_
                intro q Q4 hq4 hqq he4 hr4
                simp [namX, rowZ, range_succ']
                by_cases h7 : q < (el t 1).length
                · have h7' : (q : Int) < (el t 1).length := by omega
                  have hsf := set_fill ((spX t k to 1).map iv) q (by rw [List.length_map, hxl]; exact h7) (AV.raw (.int .i64 (-1)))
                  have hlt : q < q + ((el t 1).length - q) := by omega
                  have hnt := nth_fill (spX t k to 1) q (by rw [hxl]; exact h7) (AV.raw (.int .i64 (-1)))
                  try simp [h7, h7', hxl, hlt, hnt]
                  repeat (refine PreK.intro (by first | omega | (intros; first | omega | (refine ⟨by omega, ?_⟩; simp_all; done) | (simp_all; done) | (simp_all; omega))) fun _ => ?_; (try simp [h7, h7', hxl, hlt, hnt]))
                  refine CondK.tt ?_
                  try simp 
                  try simp [h7, h7', hxl, hlt, hnt, hsf]
                  repeat (refine PreK.intro (by first | omega | (intros; first | omega | (refine ⟨by omega, ?_⟩; simp_all; done) | (simp_all; done) | (simp_all; omega))) fun _ => ?_; (try simp [h7, h7', hxl, hlt, hnt, hsf]))
                  exact hqq (q + 1) _ (by omega) (by omega) (by simp [namX, rowZ, range_succ', hsf, leEls_refl])
                · have hqe : q = (el t 1).length := by omega
                  subst hqe
                  have hdr : List.drop (el t 1).length ((spX t k to 1).map iv) = [] := List.drop_eq_nil_of_le (by rw [List.length_map, hxl]; exact Nat.le_refl _)
                  try simp 
                  repeat (refine PreK.intro (by first | omega | (intros; first | omega | (refine ⟨by omega, ?_⟩; simp_all; done) | (simp_all; done) | (simp_all; omega))) fun _ => ?_; (try simp ))
                  refine CondK.ff ?_
                  try simp 
                  apply he4
                  try simp 
                  repeat (refine PreK.intro (by first | omega | (intros; first | omega | (refine ⟨by omega, ?_⟩; simp_all; done) | (simp_all; done) | (simp_all; omega))) fun _ => ?_; (try simp ))
                  exact hq3 2 _ (by omega) (by omega) (by simp [namX, rowY, range_succ', hdr, leEls_refl])
              · simp at h6
            · have hlj := hel 2
              simp [namX, rowY, range_succ']
              try simp 
              repeat (refine PreK.intro (by first | omega | (intros; first | omega | (refine ⟨by omega, ?_⟩; simp_all; done) | (simp_all; done) | (simp_all; omega))) fun _ => ?_; (try simp ))
              refine CondK.intro (fun h6 => ?_) (fun h6 => ?_)
              · try simp 
                repeat (refine PreK.intro (by first | omega | (intros; first | omega | (refine ⟨by omega, ?_⟩; simp_all; done) | (simp_all; done) | (simp_all; omega))) fun _ => ?_; (try simp ))
                refine LoopK.by (ι := Nat) (fun q => ⟨[(22, iv q), (21, iv 2), (7, rdsV t), (8, .sl 1008 1 0 5), (0, rdsV t)], (1008, some ⟨1, namX t 5, 1, true⟩) :: rowZ t k to 5 2 q⟩) (fun q => (el t 2).length - q) (fun q => q ≤ (el t 2).length) 0 (Nat.zero_le _) (by simp [namX, rowZ, range_succ', leEls_refl]) ?_
                intro q Q4 hq4 hqq he4 hr4
                simp [namX, rowZ, range_succ']
                by_cases h7 : q < (el t 2).length
                · have h7' : (q : Int) < (el t 2).length := by omega
                  have hsf := set_fill ((spX t k to 2).map iv) q (by rw [List.length_map, hxl]; exact h7) (AV.raw (.int .i64 (-1)))
                  have hlt : q < q + ((el t 2).length - q) := by omega
                  have hnt := nth_fill (spX t k to 2) q (by rw [hxl]; exact h7) (AV.raw (.int .i64 (-1)))
                  try simp [h7, h7', hxl, hlt, hnt]
                  repeat (refine PreK.intro (by first | omega | (intros; first | omega | (refine ⟨by omega, ?_⟩; simp_all; done) | (simp_all; done) | (simp_all; omega))) fun _ => ?_; (try simp [h7, h7', hxl, hlt, hnt]))
                  refine CondK.tt ?_
                  try simp 
                  try simp [h7, h7', hxl, hlt, hnt, hsf]
                  repeat (refine PreK.intro (by first | omega | (intros; first | omega | (refine ⟨by omega, ?_⟩; simp_all; done) | (simp_all; done) | (simp_all; omega))) fun _ => ?_; (try simp [h7, h7', hxl, hlt, hnt, hsf]))
                  exact hqq (q + 1) _ (by omega) (by omega) (by simp [namX, rowZ, range_succ', hsf, leEls_refl])
                · have hqe : q = (el t 2).length := by omega
                  subst hqe
                  have hdr : List.drop (el t 2).length ((spX t k to 2).map iv) = [] := List.drop_eq_nil_of_le (by rw [List.length_map, hxl]; exact Nat.le_refl _)
                  try simp 
                  repeat (refine PreK.intro (by first | omega | (intros; first | omega | (refine ⟨by omega, ?_⟩; simp_all; done) | (simp_all; done) | (simp_all; omega))) fun _ => ?_; (try simp ))
                  refine CondK.ff ?_
                  try simp 
                  apply he4
                  try simp 
                  repeat (refine PreK.intro (by first | omega | (intros; first | omega | (refine ⟨by omega, ?_⟩; simp_all; done) | (simp_all; done) | (simp_all; omega))) fun _ => ?_; (try simp ))
                  exact hq3 3 _ (by omega) (by omega) (by simp [namX, rowY, range_succ', hdr, leEls_refl])
              · simp at h6
            · have hlj := hel 3
              simp [namX, rowY, range_succ']
              try simp 
              repeat (refine PreK.intro (by first | omega | (intros; first | omega | (refine ⟨by omega, ?_⟩; simp_all; done) | (simp_all; done) | (simp_all; omega))) fun _ => ?_; (try simp ))
              refine CondK.intro (fun h6 => ?_) (fun h6 => ?_)
              · try simp 
                repeat (refine PreK.intro (by first | omega | (intros; first | omega | (refine ⟨by omega, ?_⟩; simp_all; done) | (simp_all; done) | (simp_all; omega))) fun _ => ?_; (try simp ))
                refine LoopK.by (ι := Nat) (fun q => ⟨[(22, iv q), (21, iv 3), (7, rdsV t), (8, .sl 1008 1 0 5), (0, rdsV t)], (1008, some ⟨1, namX t 5, 1, true⟩) :: rowZ t k to 5 3 q⟩) (fun q => (el t 3).length - q) (fun q => q ≤ (el t 3).length) 0 (Nat.zero_le _) (by simp [namX, rowZ, range_succ', leEls_refl]) ?_
                intro q Q4 hq4 hqq he4 hr4
                simp [namX, rowZ, range_succ']
                by_cases h7 : q < (el t 3).length
                · have h7' : (q : Int) < (el t 3).length := by omega
                  have hsf := set_fill ((spX t k to 3).map iv) q (by rw [List.length_map, hxl]; exact h7) (AV.raw (.int .i64 (-1)))
                  have hlt : q < q + ((el t 3).length - q) := by omega
                  have hnt := nth_fill (spX t k to 3) q (by rw [hxl]; exact h7) (AV.raw (.int .i64 (-1)))
                  try simp [h7, h7', hxl, hlt, hnt]
                  repeat (refine PreK.intro (by first | omega | (intros; first | omega | (refine ⟨by omega, ?_⟩; simp_all; done) | (simp_all; done) | (simp_all; omega))) fun _ => ?_; (try simp [h7, h7', hxl, hlt, hnt]))
                  refine CondK.tt ?_
                  try simp 
                  try simp [h7, h7', hxl, hlt, hnt, hsf]
                  repeat (refine PreK.intro (by first | omega | (intros; first | omega | (refine ⟨by omega, ?_⟩; simp_all; done) | (simp_all; done) | (simp_all; omega))) fun _ => ?_; (try simp [h7, h7', hxl, hlt, hnt, hsf]))
                  exact hqq (q + 1) _ (by omega) (by omega) (by simp [namX, rowZ, range_succ', hsf, leEls_refl])
                · have hqe : q = (el t 3).length := by omega
                  subst hqe
                  have hdr : List.drop (el t 3).length ((spX t k to 3).map iv) = [] := List.drop_eq_nil_of_le (by rw [List.length_map, hxl]; exact Nat.le_refl _)
                  try simp 
                  repeat (refine PreK.intro (by first | omega | (intros; first | omega | (refine ⟨by omega, ?_⟩; simp_all; done) | (simp_all; done) | (simp_all; omega))) fun _ => ?_; (try simp ))
                  refine CondK.ff ?_
                  try simp 
                  apply he4
                  try simp 
                  repeat (refine PreK.intro (by first | omega | (intros; first | omega | (refine ⟨by omega, ?_⟩; simp_all; done) | (simp_all; done) | (simp_all; omega))) fun _ => ?_; (try simp ))
                  exact hq3 4 _ (by omega) (by omega) (by simp [namX, rowY, range_succ', hdr, leEls_refl])
              · simp at h6
            · have hlj := hel 4
              simp [namX, rowY, range_succ']
              try simp 
              repeat (refine PreK.intro (by first | omega | (intros; first | omega | (refine ⟨by omega, ?_⟩; simp_all; done) | (simp_all; done) | (simp_all; omega))) fun _ => ?_; (try simp ))
              refine CondK.intro (fun h6 => ?_) (fun h6 => ?_)
              · try simp 
                repeat (refine PreK.intro (by first | omega | (intros; first | omega | (refine ⟨by omega, ?_⟩; simp_all; done) | (simp_all; done) | (simp_all; omega))) fun _ => ?_; (try simp ))
                refine LoopK.by (ι := Nat) (fun q => ⟨[(22, iv q), (21, iv 4), (7, rdsV t), (8, .sl 1008 1 0 5), (0, rdsV t)], (1008, some ⟨1, namX t 5, 1, true⟩) :: rowZ t k to 5 4 q⟩) (fun q => (el t 4).length - q) (fun q => q ≤ (el t 4).length) 0 (Nat.zero_le _) (by simp [namX, rowZ, range_succ', leEls_refl]) ?_
                intro q Q4 hq4 hqq he4 hr4
                simp [namX, rowZ, range_succ']
                by_cases h7 : q < (el t 4).length
                · have h7' : (q : Int) < (el t 4).length := by omega
                  have hsf := set_fill ((spX t k to 4).map iv) q (by rw [List.length_map, hxl]; exact h7) (AV.raw (.int .i64 (-1)))
                  have hlt : q < q + ((el t 4).length - q) := by omega
                  have hnt := nth_fill (spX t k to 4) q (by rw [hxl]; exact h7) (AV.raw (.int .i64 (-1)))
                  try simp [h7, h7', hxl, hlt, hnt]
                  repeat (refine PreK.intro (by first | omega | (intros; first | omega | (refine ⟨by omega, ?_⟩; simp_all; done) | (simp_all; done) | (simp_all; omega))) fun _ => ?_; (try simp [h7, h7', hxl, hlt, hnt]))
                  refine CondK.tt ?_
                  try simp 
                  try simp [h7, h7', hxl, hlt, hnt, hsf]
                  repeat (refine PreK.intro (by first | omega | (intros; first | omega | (refine ⟨by omega, ?_⟩; simp_all; done) | (simp_all; done) | (simp_all; omega))) fun _ => ?_; (try simp [h7, h7', hxl, hlt, hnt, hsf]))
                  exact hqq (q + 1) _ (by omega) (by omega) (by simp [namX, rowZ, range_succ', hsf, leEls_refl])
                · have hqe : q = (el t 4).length := by omega
                  subst hqe
                  have hdr : List.drop (el t 4).length ((spX t k to 4).map iv) = [] := List.drop_eq_nil_of_le (by rw [List.length_map, hxl]; exact Nat.le_refl _)
                  try simp 
                  repeat (refine PreK.intro (by first | omega | (intros; first | omega | (refine ⟨by omega, ?_⟩; simp_all; done) | (simp_all; done) | (simp_all; omega))) fun _ => ?_; (try simp ))
                  refine CondK.ff ?_
                  try simp 
                  apply he4
                  try simp 
                  repeat (refine PreK.intro (by first | omega | (intros; first | omega | (refine ⟨by omega, ?_⟩; simp_all; done) | (simp_all; done) | (simp_all; omega))) fun _ => ?_; (try simp ))
                  exact hq3 5 _ (by omega) (by omega) (by simp [namX, rowY, range_succ', hdr, leEls_refl])
              · simp at h6
            · simp [namX, rowY, range_succ']
              try simp 
              repeat (refine PreK.intro (by first | omega | (intros; first | omega | (refine ⟨by omega, ?_⟩; simp_all; done) | (simp_all; done) | (simp_all; omega))) fun _ => ?_; (try simp ))
              refine CondK.intro (fun h6 => ?_) (fun h6 => ?_)
              · simp at h6
              · apply he3
                try simp 
                repeat' (first
                  | (refine CallX.pure (cown) (by simp) (by simp) ?_; try simp )
                  | (refine CallK.intro (cown) (by simp) (by simp) ?_; try simp )
                  | (refine CallG.intro (fun _ => cown) (by simp) (by simp) ?_; try simp )
                  | ((with_reducible refine PreK.intro ?_ ?_); (next => (first | omega | (intros; first | omega | (refine ⟨by omega, ?_⟩; repeat (first | assumption | constructor)) | assumption))); intro _; try simp )
                  | fail)
                try simp 
                repeat' (first
                  | (refine CallX.pure (sane7_c) (by simp) (by simp) ?_; try simp )
                  | (refine CallK.intro (sane7_c) (by simp) (by simp) ?_; try simp )
                  | (refine CallG.intro (fun _ => sane7_c) (by simp) (by simp) ?_; try simp )
                  | ((with_reducible refine PreK.intro ?_ ?_); (next => (first | omega | (intros; first | omega | (refine ⟨by omega, ?_⟩; repeat (first | assumption | constructor)) | assumption))); intro _; try simp )
                  | fail)
        · rw [hn] at cs hsr c7 c8
          simp only [namX, rowX] at cs
          simp only [range_succ', List.range_zero, List.nil_append, List.map_append, List.map_cons, List.map_nil, List.cons_append] at hsr
          refine CallX.mem 0 cs (by simp) (by simp [range_succ']) (by simp [range_succ']) ?_
          simp [range_succ']
          try simp 
          repeat (refine PreK.intro (by first | omega | (intros; first | omega | (refine ⟨by omega, ?_⟩; simp_all; done) | (simp_all; done) | (simp_all; omega))) fun _ => ?_; (try simp ))
          try simp 
          repeat' (first
            | (refine CallX.pure (c2) (by simp) (by simp) ?_; try simp )
            | (refine CallK.intro (c2) (by simp) (by simp) ?_; try simp )
            | (refine CallG.intro (fun _ => c2) (by simp) (by simp) ?_; try simp )
            | ((with_reducible refine PreK.intro ?_ ?_); (next => (first | omega | (intros; first | omega | (refine ⟨by omega, ?_⟩; repeat (first | assumption | constructor)) | assumption))); intro _; try simp )
            | fail)
          try simp 
          repeat (refine PreK.intro (by first | omega | (intros; first | omega | (refine ⟨by omega, ?_⟩; simp_all; done) | (simp_all; done) | (simp_all; omega))) fun _ => ?_; (try simp ))
          refine CallX.deep (r := bv true) (by simpa [hsr, htk] using c3) (by simp [hxl]) (by simp) ?_
          try simp 
          repeat (refine PreK.intro (by first | omega | (intros; first | omega | (refine ⟨by omega, ?_⟩; simp_all; done) | (simp_all; done) | (simp_all; omega))) fun _ => ?_; (try simp ))
          refine CondK.ff ?_
          try simp 
          try simp 
          repeat (refine PreK.intro (by first | omega | (intros; first | omega | (refine ⟨by omega, ?_⟩; simp_all; done) | (simp_all; done) | (simp_all; omega))) fun _ => ?_; (try simp ))
          refine CondK.tt ?_
          try simp 
          try simp 
          repeat' (first
            | (refine CallX.pure (c4) (by simp) (by simp) ?_; try simp )
            | (refine CallK.intro (c4) (by simp) (by simp) ?_; try simp )
            | (refine CallG.intro (fun _ => c4) (by simp) (by simp) ?_; try simp )
            | ((with_reducible refine PreK.intro ?_ ?_); (next => (first | omega | (intros; first | omega | (refine ⟨by omega, ?_⟩; repeat (first | assumption | constructor)) | assumption))); intro _; try simp )
            | fail)
          try simp 
          repeat (refine PreK.intro (by first | omega | (intros; first | omega | (refine ⟨by omega, ?_⟩; simp_all; done) | (simp_all; done) | (simp_all; omega))) fun _ => ?_; (try simp ))
          refine CallX.deepT (by simpa [hsr, htk] using c5) (by simp [hxl]) (flat_pairs _) ?_
          try simp 
          repeat (refine PreK.intro (by first | omega | (intros; first | omega | (refine ⟨by omega, ?_⟩; simp_all; done) | (simp_all; done) | (simp_all; omega))) fun _ => ?_; (try simp ))
          have c6' : CallP Try.prog 43 [pairsV (confsM t), pairsV (confsM t)] (bv true) := by simpa using c6
          try simp 
          repeat' (first
            | (refine CallX.pure (c6') (by simp) (by simp) ?_; try simp )
            | (refine CallK.intro (c6') (by simp) (by simp) ?_; try simp )
            | (refine CallG.intro (fun _ => c6') (by simp) (by simp) ?_; try simp )
            | ((with_reducible refine PreK.intro ?_ ?_); (next => (first | omega | (intros; first | omega | (refine ⟨by omega, ?_⟩; repeat (first | assumption | constructor)) | assumption))); intro _; try simp )
            | fail)
          try simp 
          repeat (refine PreK.intro (by first | omega | (intros; first | omega | (refine ⟨by omega, ?_⟩; simp_all; done) | (simp_all; done) | (simp_all; omega))) fun _ => ?_; (try simp ))
          refine CondK.ff ?_
          try simp 
          try simp 
          repeat (refine PreK.intro (by first | omega | (intros; first | omega | (refine ⟨by omega, ?_⟩; simp_all; done) | (simp_all; done) | (simp_all; omega))) fun _ => ?_; (try simp ))
          have hn' : (t.length : Int) = 6 := by omega
          refine LoopK.by (ι := Nat) (fun i => ⟨[(16, iv i), (7, rdsV t), (8, .sl 1008 1 0 6), (0, rdsV t)], (1008, some ⟨1, namX t 6, 1, true⟩) :: rowX t k to 6 6⟩) (fun i => 6 - i) (fun i => i ≤ 6) 0 (Nat.zero_le _) (by simp [namX, rowX, range_succ', leEls_refl]) ?_
          intro i Q' hi hq he hr
          simp [namX, rowX, range_succ']
          by_cases h5 : i < 6
          · have h5' : (i : Int) < 6 := by omega
            try simp [hn, hn', h5, h5']
            repeat (refine PreK.intro (by first | omega | (intros; first | omega | (refine ⟨by omega, ?_⟩; simp_all; done) | (simp_all; done) | (simp_all; omega))) fun _ => ?_; (try simp [hn, hn', h5, h5']))
            refine CondK.tt ?_
            try simp 
            try simp 
            repeat' (first
              | (refine CallX.pure ((c7 i (by omega))) (by simp) (by simp) ?_; try simp )
              | (refine CallK.intro ((c7 i (by omega))) (by simp) (by simp) ?_; try simp )
              | (refine CallG.intro (fun _ => (c7 i (by omega))) (by simp) (by simp) ?_; try simp )
              | ((with_reducible refine PreK.intro ?_ ?_); (next => (first | omega | (intros; first | omega | (refine ⟨by omega, ?_⟩; repeat (first | assumption | constructor)) | assumption))); intro _; try simp )
              | fail)
            try simp 
            repeat (refine PreK.intro (by first | omega | (intros; first | omega | (refine ⟨by omega, ?_⟩; simp_all; done) | (simp_all; done) | (simp_all; omega))) fun _ => ?_; (try simp ))
            refine CallX.deep (by simpa [hsr, htk] using c8 i (by omega)) (by simp [hxl]) (by simp) ?_
            try simp 
            repeat (refine PreK.intro (by first | omega | (intros; first | omega | (refine ⟨by omega, ?_⟩; simp_all; done) | (simp_all; done) | (simp_all; omega))) fun _ => ?_; (try simp ))
            refine CondK.ff ?_
            try simp 
            try simp 
            repeat (refine PreK.intro (by first | omega | (intros; first | omega | (refine ⟨by omega, ?_⟩; simp_all; done) | (simp_all; done) | (simp_all; omega))) fun _ => ?_; (try simp ))
            exact hq (i + 1) _ (by omega) (by omega) (by simp [namX, rowX, range_succ', leEls_refl])
          · have h5' : ¬ (i : Int) < 6 := by omega
            try simp [hn, hn', h5, h5']
            repeat (refine PreK.intro (by first | omega | (intros; first | omega | (refine ⟨by omega, ?_⟩; simp_all; done) | (simp_all; done) | (simp_all; omega))) fun _ => ?_; (try simp [hn, hn', h5, h5']))
            refine CondK.ff ?_
            try simp 
            apply he
            try simp 
            repeat (refine PreK.intro (by first | omega | (intros; first | omega | (refine ⟨by omega, ?_⟩; simp_all; done) | (simp_all; done) | (simp_all; omega))) fun _ => ?_; (try simp ))
            refine LoopK.by (ι := Nat) (fun i => ⟨[(21, iv i), (7, rdsV t), (8, .sl 1008 1 0 6), (0, rdsV t)], (1008, some ⟨1, namX t 6, 1, true⟩) :: rowY t k to 6 i⟩) (fun i => 6 - i) (fun i => i ≤ 6) 0 (Nat.zero_le _) (by simp [namX, rowY, range_succ', leEls_refl]) ?_
            intro i3 Q3 hi3 hq3 he3 hr3
            have hi6 : i3 = 0 ∨ i3 = 1 ∨ i3 = 2 ∨ i3 = 3 ∨ i3 = 4 ∨ i3 = 5 ∨ i3 = 6 := by omega
            rcases hi6 with rfl | rfl | rfl | rfl | rfl | rfl | rfl
            · have hlj := hel 0
              simp [namX, rowY, range_succ']
              try simp 
              repeat (refine PreK.intro (by first | omega | (intros; first | omega | (refine ⟨by omega, ?_⟩; simp_all; done) | (simp_all; done) | (simp_all; omega))) fun _ => ?_; (try simp ))
              refine CondK.intro (fun h6 => ?_) (fun h6 => ?_)
              · try simp 
                repeat (refine PreK.intro (by first | omega | (intros; first | omega | (refine ⟨by omega, ?_⟩; simp_all; done) | (simp_all; done) | (simp_all; omega))) fun _ => ?_; (try simp ))
                refine LoopK.by (ι := Nat) (fun q => ⟨[(22, iv q), (21, iv 0), (7, rdsV t), (8, .sl 1008 1 0 6), (0, rdsV t)], (1008, some ⟨1, namX t 6, 1, true⟩) :: rowZ t k to 6 0 q⟩) (fun q => (el t 0).length - q) (fun q => q ≤ (el t 0).length) 0 (Nat.zero_le _) (by simp [namX, rowZ, range_succ', leEls_refl]) ?_
                intro q Q4 hq4 hqq he4 hr4
                simp [namX, rowZ, range_succ']
                by_cases h7 : q < (el t 0).length
                · have h7' : (q : Int) < (el t 0).length := by omega
                  have hsf := set_fill ((spX t k to 0).map iv) q (by rw [List.length_map, hxl]; exact h7) (AV.raw (.int .i64 (-1)))
                  have hlt : q < q + ((el t 0).length - q) := by omega
                  have hnt := nth_fill (spX t k to 0) q (by rw [hxl]; exact h7) (AV.raw (.int .i64 (-1)))
                  try simp [h7, h7', hxl, hlt, hnt]
                  repeat (refine PreK.intro (by first | omega | (intros; first | omega | (refine ⟨by omega, ?_⟩; simp_all; done) | (simp_all; done) | (simp_all; omega))) fun _ => ?_; (try simp [h7, h7', hxl, hlt, hnt]))
                  refine CondK.tt ?_
                  try simp 
                  try simp [h7, h7', hxl, hlt, hnt, hsf]
                  repeat (refine PreK.intro (by first | omega | (intros; first | omega | (refine ⟨by omega, ?_⟩; simp_all; done) | (simp_all; done) | (simp_all; omega))) fun _ => ?_; (try simp [h7, h7', hxl, hlt, hnt, hsf]))
                  exact hqq (q + 1) _ (by omega) (by omega) (by simp [namX, rowZ, range_succ', hsf, leEls_refl])
                · have hqe : q = (el t 0).length := by omega
                  subst hqe
                  have hdr : List.drop (el t 0).length ((spX t k to 0).map iv) = [] := List.drop_eq_nil_of_le (by rw [List.length_map, hxl]; exact Nat.le_refl _)
                  try simp 
                  repeat (refine PreK.intro (by first | omega | (intros; first | omega | (refine ⟨by omega, ?_⟩; simp_all; done) | (simp_all; done) | (simp_all; omega))) fun _ => ?_; (try simp ))
                  refine CondK.ff ?_
                  try simp 
                  apply he4
                  try simp 
                  repeat (refine PreK.intro (by first | omega | (intros; first | omega | (refine ⟨by omega, ?_⟩; simp_all; done) | (simp_all; done) | (simp_all; omega))) fun _ => ?_; (try simp ))
                  exact hq3 1 _ (by omega) (by omega) (by simp [namX, rowY, range_succ', hdr, leEls_refl])
              · simp at h6
            · have hlj := hel 1
              simp [namX, rowY, range_succ']
              try simp 
              repeat (refine PreK.intro (by first | omega | (intros; first | omega | (refine ⟨by omega, ?_⟩; simp_all; done) | (simp_all; done) | (simp_all; omega))) fun _ => ?_; (try simp ))
              refine CondK.intro (fun h6 => ?_) (fun h6 => ?_)
              · try simp 
                repeat (refine PreK.intro (by first | omega | (intros; first | omega | (refine ⟨by omega, ?_⟩; simp_all; done) | (simp_all; done) | (simp_all; omega))) fun _ => ?_; (try simp ))
                refine LoopK.by (ι := Nat) (fun q => ⟨[(22, iv q), (21, iv 1), (7, rdsV t), (8, .sl 1008 1 0 6), (0, rdsV t)], (1008, some ⟨1, namX t 6, 1, true⟩) :: rowZ t k to 6 1 q⟩) (fun q => (el t 1).length - q) (fun q => q ≤ (el t 1).length) 0 (Nat.zero_le _) (by simp [namX, rowZ, range_succ', leEls_refl]) ?_
                intro q Q4 hq4 hqq he4 hr4
                simp [namX, rowZ, range_succ']
                by_cases h7 : q < (el t 1).length
                · have h7' : (q : Int) < (el t 1).length := by omega
                  have hsf := set_fill ((spX t k to 1).map iv) q (by rw [List.length_map, hxl]; exact h7) (AV.raw (.int .i64 (-1)))
                  have hlt : q < q + ((el t 1).length - q) := by omega
                  have hnt := nth_fill (spX t k to 1) q (by rw [hxl]; exact h7) (AV.raw (.int .i64 (-1)))
                  try simp [h7, h7', hxl, hlt, hnt]
                  repeat (refine PreK.intro (by first | omega | (intros; first | omega | (refine ⟨by omega, ?_⟩; simp_all; done) | (simp_all; done) | (simp_all; omega))) fun _ => ?_; (try simp [h7, h7', hxl, hlt, hnt]))
                  refine CondK.tt ?_
                  try simp 
                  try simp [h7, h7', hxl, hlt, hnt, hsf]
                  repeat (refine PreK.intro (by first | omega | (intros; first | omega | (refine ⟨by omega, ?_⟩; simp_all; done) | (simp_all; done) | (simp_all; omega))) fun _ => ?_; (try simp [h7, h7', hxl, hlt, hnt, hsf]))
                  exact hqq (q + 1) _ (by omega) (by omega) (by simp [namX, rowZ, range_succ', hsf, leEls_refl])
                · have hqe : q = (el t 1).length := by omega
                  subst hqe
                  have hdr : List.drop (el t 1).length ((spX t k to 1).map iv) = [] := List.drop_eq_nil_of_le (by rw [List.length_map, hxl]; exact Nat.le_refl _)
                  try simp 
                  repeat (refine PreK.intro (by first | omega | (intros; first | omega | (refine ⟨by omega, ?_⟩; simp_all; done) | (simp_all; done) | (simp_all; omega))) fun _ => ?_; (try simp ))
                  refine CondK.ff ?_
                  try simp 
                  apply he4
                  try simp 
                  repeat (refine PreK.intro (by first | omega | (intros; first | omega | (refine ⟨by omega, ?_⟩; simp_all; done) | (simp_all; done) | (simp_all; omega))) fun _ => ?_; (try simp ))
                  exact hq3 2 _ (by omega) (by omega) (by simp [namX, rowY, range_succ', hdr, leEls_refl])
              · simp at h6
            · have hlj := hel 2
              simp [namX, rowY, range_succ']
              try simp 
              repeat (refine PreK.intro (by first | omega | (intros; first | omega | (refine ⟨by omega, ?_⟩; simp_all; done) | (simp_all; done) | (simp_all; omega))) fun _ => ?_; (try simp ))
              refine CondK.intro (fun h6 => ?_) (fun h6 => ?_)
              · try simp 
                repeat (refine PreK.intro (by first | omega | (intros; first | omega | (refine ⟨by omega, ?_⟩; simp_all; done) | (simp_all; done) | (simp_all; omega))) fun _ => ?_; (try simp ))
                refine LoopK.by (ι := Nat) (fun q => ⟨[(22, iv q), (21, iv 2), (7, rdsV t), (8, .sl 1008 1 0 6), (0, rdsV t)], (1008, some ⟨1, namX t 6, 1, true⟩) :: rowZ t k to 6 2 q⟩) (fun q => (el t 2).length - q) (fun q => q ≤ (el t 2).length) 0 (Nat.zero_le _) (by simp [namX, rowZ, range_succ', leEls_refl]) ?_
                intro q Q4 hq4 hqq he4 hr4
                simp [namX, rowZ, range_succ']
                by_cases h7 : q < (el t 2).length
                · have h7' : (q : Int) < (el t 2).length := by omega
                  have hsf := set_fill ((spX t k to 2).map iv) q (by rw [List.length_map, hxl]; exact h7) (AV.raw (.int .i64 (-1)))
                  have hlt : q < q + ((el t 2).length - q) := by omega
                  have hnt := nth_fill (spX t k to 2) q (by rw [hxl]; exact h7) (AV.raw (.int .i64 (-1)))
                  try simp [h7, h7', hxl, hlt, hnt]
                  repeat (refine PreK.intro (by first | omega | (intros; first | omega | (refine ⟨by omega, ?_⟩; simp_all; done) | (simp_all; done) | (simp_all; omega))) fun _ => ?_; (try simp [h7, h7', hxl, hlt, hnt]))
                  refine CondK.tt ?_
                  try simp 
                  try simp [h7, h7', hxl, hlt, hnt, hsf]
                  repeat (refine PreK.intro (by first | omega | (intros; first | omega | (refine ⟨by omega, ?_⟩; simp_all; done) | (simp_all; done) | (simp_all; omega))) fun _ => ?_; (try simp [h7, h7', hxl, hlt, hnt, hsf]))
                  exact hqq (q + 1) _ (by omega) (by omega) (by simp [namX, rowZ, range_succ', hsf, leEls_refl])
                · have hqe : q = (el t 2).length := by omega
                  subst hqe
                  have hdr : List.drop (el t 2).length ((spX t k to 2).map iv) = [] := List.drop_eq_nil_of_le (by rw [List.length_map, hxl]; exact Nat.le_refl _)
                  try simp 
                  repeat (refine PreK.intro (by first | omega | (intros; first | omega | (refine ⟨by omega, ?_⟩; simp_all; done) | (simp_all; done) | (simp_all; omega))) fun _ => ?_; (try simp ))
                  refine CondK.ff ?_
                  try simp 
                  apply he4
                  try simp 
                  repeat (refine PreK.intro (by first | omega | (intros; first | omega | (refine ⟨by omega, ?_⟩; simp_all; done) | (simp_all; done) | (simp_all; omega))) fun _ => ?_; (try simp ))
                  exact hq3 3 _ (by omega) (by omega) (by simp [namX, rowY, range_succ', hdr, leEls_refl])
              · simp at h6
            · have hlj := hel 3
              simp [namX, rowY, range_succ']
              try simp 
              repeat (refine PreK.intro (by first | omega | (intros; first | omega | (refine ⟨by omega, ?_⟩; simp_all; done) | (simp_all; done) | (simp_all; omega))) fun _ => ?_; (try simp ))
              refine CondK.intro (fun h6 => ?_) (fun h6 => ?_)
              · try simp 
                repeat (refine PreK.intro (by first | omega | (intros; first | omega | (refine ⟨by omega, ?_⟩; simp_all; done) | (simp_all; done) | (simp_all; omega))) fun _ => ?_; (try simp ))
                refine LoopK.by (ι := Nat) (fun q => ⟨[(22, iv q), (21, iv 3), (7, rdsV t), (8, .sl 1008 1 0 6), (0, rdsV t)], (1008, some ⟨1, namX t 6, 1, true⟩) :: rowZ t k to 6 3 q⟩) (fun q => (el t 3).length - q) (fun q => q ≤ (el t 3).length) 0 (Nat.zero_le _) (by simp [namX, rowZ, range_succ', leEls_refl]) ?_
                intro q Q4 hq4 hqq he4 hr4
                simp [namX, rowZ, range_succ']
                by_cases h7 : q < (el t 3).length
                · have h7' : (q : Int) < (el t 3).length := by omega
                  have hsf := set_fill ((spX t k to 3).map iv) q (by rw [List.length_map, hxl]; exact h7) (AV.raw (.int .i64 (-1)))
                  have hlt : q < q + ((el t 3).length - q) := by omega
                  have hnt := nth_fill (spX t k to 3) q (by rw [hxl]; exact h7) (AV.raw (.int .i64 (-1)))
                  try simp [h7, h7', hxl, hlt, hnt]
                  repeat (refine PreK.intro (by first | omega | (intros; first | omega | (refine ⟨by omega, ?_⟩; simp_all; done) | (simp_all; done) | (simp_all; omega))) fun _ => ?_; (try simp [h7, h7', hxl, hlt, hnt]))
                  refine CondK.tt ?_
                  try simp 
                  try simp [h7, h7', hxl, hlt, hnt, hsf]
                  repeat (refine PreK.intro (by first | omega | (intros; first | omega | (refine ⟨by omega, ?_⟩; simp_all; done) | (simp_all; done) | (simp_all; omega))) fun _ => ?_; (try simp [h7, h7', hxl, hlt, hnt, hsf]))
                  exact hqq (q + 1) _ (by omega) (by omega) (by simp [namX, rowZ, range_succ', hsf, leEls_refl])
                · have hqe : q = (el t 3).length := by omega
                  subst hqe
                  have hdr : List.drop (el t 3).length ((spX t k to 3).map iv) = [] := List.drop_eq_nil_of_le (by rw [List.length_map, hxl]; exact Nat.le_refl _)
                  try simp 
                  repeat (refine PreK.intro (by first | omega | (intros; first | omega | (refine ⟨by omega, ?_⟩; simp_all; done) | (simp_all; done) | (simp_all; omega))) fun _ => ?_; (try simp ))
                  refine CondK.ff ?_
                  try simp 
                  apply he4
                  try simp 
                  repeat (refine PreK.intro (by first | omega | (intros; first | omega | (refine ⟨by omega, ?_⟩; simp_all; done) | (simp_all; done) | (simp_all; omega))) fun _ => ?_; (try simp ))
                  exact hq3 4 _ (by omega) (by omega) (by simp [namX, rowY, range_succ', hdr, leEls_refl])
              · simp at h6
            · have hlj := hel 4
              simp [namX, rowY, range_succ']
              try simp 
              repeat (refine PreK.intro (by first | omega | (intros; first | omega | (refine ⟨by omega, ?_⟩; simp_all; done) | (simp_all; done) | (simp_all; omega))) fun _ => ?_; (try simp ))
              refine CondK.intro (fun h6 => ?_) (fun h6 => ?_)
              · try simp 
                repeat (refine PreK.intro (by first | omega | (intros; first | omega | (refine ⟨by omega, ?_⟩; simp_all; done) | (simp_all; done) | (simp_all; omega))) fun _ => ?_; (try simp ))
                refine LoopK.by (ι := Nat) (fun q => ⟨[(22, iv q), (21, iv 4), (7, rdsV t), (8, .sl 1008 1 0 6), (0, rdsV t)], (1008, some ⟨1, namX t 6, 1, true⟩) :: rowZ t k to 6 4 q⟩) (fun q => (el t 4).length - q) (fun q => q ≤ (el t 4).length) 0 (Nat.zero_le _) (by simp [namX, rowZ, range_succ', leEls_refl]) ?_
                intro q Q4 hq4 hqq he4 hr4
                simp [namX, rowZ, range_succ']
                by_cases h7 : q < (el t 4).length
                · have h7' : (q : Int) < (el t 4).length := by omega
                  have hsf := set_fill ((spX t k to 4).map iv) q (by rw [List.length_map, hxl]; exact h7) (AV.raw (.int .i64 (-1)))
                  have hlt : q < q + ((el t 4).length - q) := by omega
                  have hnt := nth_fill (spX t k to 4) q (by rw [hxl]; exact h7) (AV.raw (.int .i64 (-1)))
                  try simp [h7, h7', hxl, hlt, hnt]
                  repeat (refine PreK.intro (by first | omega | (intros; first | omega | (refine ⟨by omega, ?_⟩; simp_all; done) | (simp_all; done) | (simp_all; omega))) fun _ => ?_; (try simp [h7, h7', hxl, hlt, hnt]))
                  refine CondK.tt ?_
                  try simp 
                  try simp [h7, h7', hxl, hlt, hnt, hsf]
                  repeat (refine PreK.intro (by first | omega | (intros; first | omega | (refine ⟨by omega, ?_⟩; simp_all; done) | (simp_all; done) | (simp_all; omega))) fun _ => ?_; (try simp [h7, h7', hxl, hlt, hnt, hsf]))
                  exact hqq (q + 1) _ (by omega) (by omega) (by simp [namX, rowZ, range_succ', hsf, leEls_refl])
                · have hqe : q = (el t 4).length := by omega
                  subst hqe
                  have hdr : List.drop (el t 4).length ((spX t k to 4).map iv) = [] := List.drop_eq_nil_of_le (by rw [List.length_map, hxl]; exact Nat.le_refl _)
                  try simp 
                  repeat (refine PreK.intro (by first | omega | (intros; first | omega | (refine ⟨by omega, ?_⟩; simp_all; done) | (simp_all; done) | (simp_all; omega))) fun _ => ?_; (try simp ))
                  refine CondK.ff ?_
                  try simp 
                  apply he4
                  try simp 
                  repeat (refine PreK.intro (by first | omega | (intros; first | omega | (refine ⟨by omega, ?_⟩; simp_all; done) | (simp_all; done) | (simp_all; omega))) fun _ => ?_; (try simp ))
                  exact hq3 5 _ (by omega) (by omega) (by simp [namX, rowY, range_succ', hdr, leEls_refl])
              · simp at h6
            · have hlj := hel 5
              simp [namX, rowY, range_succ']
              try simp 
              repeat (refine PreK.intro (by first | omega | (intros; first | omega | (refine ⟨by omega, ?_⟩; simp_all; done) | (simp_all; done) | (simp_all; omega))) fun _ => ?_; (try simp ))
              refine CondK.intro (fun h6 => ?_) (fun h6 => ?_)
              · try simp 
                repeat (refine PreK.intro (by first | omega | (intros; first | omega | (refine ⟨by omega, ?_⟩; simp_all; done) | (simp_all; done) | (simp_all; omega))) fun _ => ?_; (try simp ))
                refine LoopK.by (ι := Nat) (fun q => ⟨[(22, iv q), (21, iv 5), (7, rdsV t), (8, .sl 1008 1 0 6), (0, rdsV t)], (1008, some ⟨1, namX t 6, 1, true⟩) :: rowZ t k to 6 5 q⟩) (fun q => (el t 5).length - q) (fun q => q ≤ (el t 5).length) 0 (Nat.zero_le _) (by simp [namX, rowZ, range_succ', leEls_refl]) ?_
                intro q Q4 hq4 hqq he4 hr4
                simp [namX, rowZ, range_succ']
                by_cases h7 : q < (el t 5).length
                · have h7' : (q : Int) < (el t 5).length := by omega
                  have hsf := set_fill ((spX t k to 5).map iv) q (by rw [List.length_map, hxl]; exact h7) (AV.raw (.int .i64 (-1)))
                  have hlt : q < q + ((el t 5).length - q) := by omega
                  have hnt := nth_fill (spX t k to 5) q (by rw [hxl]; exact h7) (AV.raw (.int .i64 (-1)))
                  try simp [h7, h7', hxl, hlt, hnt]
                  repeat (refine PreK.intro (by first | omega | (intros; first | omega | (refine ⟨by omega, ?_⟩; simp_all; done) | (simp_all; done) | (simp_all; omega))) fun _ => ?_; (try simp [h7, h7', hxl, hlt, hnt]))
                  refine CondK.tt ?_
                  try simp 
                  try simp [h7, h7', hxl, hlt, hnt, hsf]
                  repeat (refine PreK.intro (by first | omega | (intros; first | omega | (refine ⟨by omega, ?_⟩; simp_all; done) | (simp_all; done) | (simp_all; omega))) fun _ => ?_; (try simp [h7, h7', hxl, hlt, hnt, hsf]))
                  exact hqq (q + 1) _ (by omega) (by omega) (by simp [namX, rowZ, range_succ', hsf, leEls_refl])
                · have hqe : q = (el t 5).length := by omega
                  subst hqe
                  have hdr : List.drop (el t 5).length ((spX t k to 5).map iv) = [] := List.drop_eq_nil_of_le (by rw [List.length_map, hxl]; exact Nat.le_refl _)
                  try simp 
                  repeat (refine PreK.intro (by first | omega | (intros; first | omega | (refine ⟨by omega, ?_⟩; simp_all; done) | (simp_all; done) | (simp_all; omega))) fun _ => ?_; (try simp ))
                  refine CondK.ff ?_
                  try simp 
                  apply he4
                  try simp 
                  repeat (refine PreK.intro (by first | omega | (intros; first | omega | (refine ⟨by omega, ?_⟩; simp_all; done) | (simp_all; done) | (simp_all; omega))) fun _ => ?_; (try simp ))
                  exact hq3 6 _ (by omega) (by omega) (by simp [namX, rowY, range_succ', hdr, leEls_refl])
              · simp at h6
            · simp [namX, rowY, range_succ']
              try simp 
              repeat (refine PreK.intro (by first | omega | (intros; first | omega | (refine ⟨by omega, ?_⟩; simp_all; done) | (simp_all; done) | (simp_all; omega))) fun _ => ?_; (try simp ))
              refine CondK.intro (fun h6 => ?_) (fun h6 => ?_)
              · simp at h6
              · apply he3
                try simp 
                repeat' (first
                  | (refine CallX.pure (cown) (by simp) (by simp) ?_; try simp )
                  | (refine CallK.intro (cown) (by simp) (by simp) ?_; try simp )
                  | (refine CallG.intro (fun _ => cown) (by simp) (by simp) ?_; try simp )
                  | ((with_reducible refine PreK.intro ?_ ?_); (next => (first | omega | (intros; first | omega | (refine ⟨by omega, ?_⟩; repeat (first | assumption | constructor)) | assumption))); intro _; try simp )
                  | fail)
                try simp 
                repeat' (first
                  | (refine CallX.pure (sane7_c) (by simp) (by simp) ?_; try simp )
                  | (refine CallK.intro (sane7_c) (by simp) (by simp) ?_; try simp )
                  | (refine CallG.intro (fun _ => sane7_c) (by simp) (by simp) ?_; try simp )
                  | ((with_reducible refine PreK.intro ?_ ?_); (next => (first | omega | (intros; first | omega | (refine ⟨by omega, ?_⟩; repeat (first | assumption | constructor)) | assumption))); intro _; try simp )
                  | fail)
      · have hl := hbad h0
        have cs := Spell_e t p to hs (by omega) h0
        rw [hl] at c2
        generalize (SpellR t p to).2 = e at *
        have c3 := same07_c [] [] (by simp [big]) (by simp)
        try simp 
        repeat' (first
          | (refine CallX.pure (c1) (by simp) (by simp) ?_; try simp )
          | (refine CallK.intro (c1) (by simp) (by simp) ?_; try simp )
          | (refine CallG.intro (fun _ => c1) (by simp) (by simp) ?_; try simp )
          | ((with_reducible refine PreK.intro ?_ ?_); (next => (first | omega | (intros; first | omega | (refine ⟨by omega, ?_⟩; repeat (first | assumption | constructor)) | assumption))); intro _; try simp )
          | fail)
        try simp 
        repeat' (first
          | (refine CallX.pure (cs) (by simp) (by simp) ?_; try simp )
          | (refine CallK.intro (cs) (by simp) (by simp) ?_; try simp )
          | (refine CallG.intro (fun _ => cs) (by simp) (by simp) ?_; try simp )
          | ((with_reducible refine PreK.intro ?_ ?_); (next => (first | omega | (intros; first | omega | (refine ⟨by omega, ?_⟩; repeat (first | assumption | constructor)) | assumption))); intro _; try simp )
          | fail)
        try simp 
        repeat' (first
          | (refine CallX.pure (c2) (by simp) (by simp) ?_; try simp )
          | (refine CallK.intro (c2) (by simp) (by simp) ?_; try simp )
          | (refine CallG.intro (fun _ => c2) (by simp) (by simp) ?_; try simp )
          | ((with_reducible refine PreK.intro ?_ ?_); (next => (first | omega | (intros; first | omega | (refine ⟨by omega, ?_⟩; repeat (first | assumption | constructor)) | assumption))); intro _; try simp )
          | fail)
        try simp 
        repeat' (first
          | (refine CallX.pure (c3) (by simp) (by simp) ?_; try simp )
          | (refine CallK.intro (c3) (by simp) (by simp) ?_; try simp )
          | (refine CallG.intro (fun _ => c3) (by simp) (by simp) ?_; try simp )
          | ((with_reducible refine PreK.intro ?_ ?_); (next => (first | omega | (intros; first | omega | (refine ⟨by omega, ?_⟩; repeat (first | assumption | constructor)) | assumption))); intro _; try simp )
          | fail)
        refine CondK.ff ?_
        try simp 
        try simp [h0]
        repeat (refine PreK.intro (by first | omega | (intros; first | omega | (refine ⟨by omega, ?_⟩; simp_all; done) | (simp_all; done) | (simp_all; omega))) fun _ => ?_; (try simp [h0]))
        refine CondK.ff ?_
        try simp 
        try simp 
        repeat (refine PreK.intro (by first | omega | (intros; first | omega | (refine ⟨by omega, ?_⟩; simp_all; done) | (simp_all; done) | (simp_all; omega))) fun _ => ?_; (try simp ))
        refine LoopK.by (ι := Unit) (fun _ => ⟨[(21, iv 0), (7, rdsV t), (8, rdsV []), (0, rdsV t)], []⟩) (fun _ => 0) (fun _ => True) () trivial (by simp) ?_
        intro _ Q' _ hq he hr
        try simp 
        refine CondK.ff ?_
        try simp 
        apply he
        try simp 
        repeat' (first
          | (refine CallX.pure (cown) (by simp) (by simp) ?_; try simp )
          | (refine CallK.intro (cown) (by simp) (by simp) ?_; try simp )
          | (refine CallG.intro (fun _ => cown) (by simp) (by simp) ?_; try simp )
          | ((with_reducible refine PreK.intro ?_ ?_); (next => (first | omega | (intros; first | omega | (refine ⟨by omega, ?_⟩; repeat (first | assumption | constructor)) | assumption))); intro _; try simp )
          | fail)
        try simp 
        repeat' (first
          | (refine CallX.pure (sane7_c) (by simp) (by simp) ?_; try simp )
          | (refine CallK.intro (sane7_c) (by simp) (by simp) ?_; try simp )
          | (refine CallG.intro (fun _ => sane7_c) (by simp) (by simp) ?_; try simp )
          | ((with_reducible refine PreK.intro ?_ ?_); (next => (first | omega | (intros; first | omega | (refine ⟨by omega, ?_⟩; repeat (first | assumption | constructor)) | assumption))); intro _; try simp )
          | fail)
end Go.Proofs.Ytnpkaemlidifgaa
end

section
/- Contracts: the statements StemmaFewest, StemmaReadings, StemmaChecks, StemmaAparts, StemmaPlaces, StemmaSides, StemmaConflicts, StemmaTotals. -/
namespace Go.Proofs.Ytnpkaemlidifgaa
open Go.Abs Go
set_option maxRecDepth 20000
set_option maxHeartbeats 2000000
attribute [local irreducible] PreK CondK CallK CallG CallX LoopK
attribute [local simp] avsEq avEq akind teq vkind vEq

@[simp] def claimV (c : (List Int × List Int) × Int × List Int) : AV := .agg [ints c.1.1, ints c.1.2, iv c.2.1, ints c.2.2]
end Go.Proofs.Ytnpkaemlidifgaa
end

section
/- Contracts: the statements StemmaSides and StemmaTotals. -/
namespace Go.Proofs.Ytnpkaemlidifgaa
open Go.Abs Go
set_option maxRecDepth 20000
set_option maxHeartbeats 2000000
attribute [local irreducible] PreK CondK CallK CallG CallX LoopK
attribute [local simp] avsEq avEq akind teq vkind vEq

end Go.Proofs.Ytnpkaemlidifgaa
end
