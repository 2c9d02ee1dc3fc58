/- Part 5 of the proof: the value layer and the contracts of the functions that the statement reaches; proved without conditions beyond those each theorem states. -/
import Derived.Test.YtgfgkfkplidncaaGreatV2
import Derived.Test.YtgfgkfkplidncaaGreatV4
set_option linter.unusedSimpArgs false
set_option linter.unusedVariables false

section
/- Contracts: the document's list of all orders; its first and its best one. -/
namespace Go.Proofs.YtgfgkfkplidncaaGreat
open Go.Abs Go
set_option maxRecDepth 20000
set_option maxHeartbeats 2000000
attribute [local irreducible] PreK CondK CallK CallG CallX LoopK
attribute [local simp] avsEq avEq akind teq vkind vEq

theorem kids_num (n : Nat) (b : List Int) : (kidsO n b).length ≤ n := by
  unfold kidsO
  rw [List.length_map]
  have := List.length_filter_le (fun s => !b.contains s) (idsN n)
  rwa [ids_len] at this
theorem rorders_c (n : Nat) (h0 : 1 ≤ n) (hn : n ≤ 6) : CallP Tryz.prog 64 [iv n] (tabV (allO n)) := by
  refine C64 (by simp) ?_
  have hall : levO n n [[]] = allO n := by rw [lev_ord]; simp [allO]
  generalize allO n = R at hall
  simp [A64]
  refine LoopK.byF (ι := Bool × Nat × List (List Int)) (fun x => match x.1 with
    | false => ⟨[(4, iv 0), (3, .seq 1 [.seq 1 [] true] false), (0, iv n)], []⟩
    | true => ⟨[(4, iv x.2.1), (3, tabV x.2.2), (0, iv n)], []⟩) (fun x => n - x.2.1)
    (fun x => x.2.1 ≤ n ∧ x.2.2.length ≤ 6 ^ x.2.1 ∧ (∀ b ∈ x.2.2, b.length = x.2.1) ∧ levO n (n - x.2.1) x.2.2 = R ∧ (x.1 = false → x.2.1 = 0 ∧ x.2.2 = [[]])) (false, 0, [[]]) ⟨Nat.zero_le _, by simp, by simp, hall, fun _ => ⟨rfl, rfl⟩⟩ (by simp) ?_
  intro ⟨kd, i, out⟩ Q' ⟨hi, hol, hlen, hc, hkd⟩ hq he hr hfz
  dsimp only at hi hol hlen hc hkd
  have hstep : i < n → (out.flatMap (kidsO n)).length ≤ 6 ^ (i + 1) ∧ (∀ b ∈ out.flatMap (kidsO n), b.length = i + 1) ∧ levO n (n - (i + 1)) (out.flatMap (kidsO n)) = R := by
    intro h
    refine ⟨?_, fun b hb => ?_, ?_⟩
    · have h1 := flat_len (kidsO n) 6 out fun b _ => by have := kids_num n b; omega
      have h2 : out.length * 6 ≤ 6 ^ i * 6 := Nat.mul_le_mul_right 6 hol
      rw [Nat.pow_succ]
      omega
    · obtain ⟨c, hc1, hc2⟩ := List.mem_flatMap.1 hb
      obtain ⟨s, _, _, _, rfl⟩ := mem_kids.1 hc2
      have := hlen c hc1
      simp; omega
    · rw [← hc, show n - i = (n - (i + 1)) + 1 by omega, levO]
  have hpow : 6 ^ (i + 1) ≤ 6 ^ 7 := Nat.pow_le_pow_right (by omega) (by omega)
  have hpow2 : 6 ^ i ≤ 6 ^ 7 := Nat.pow_le_pow_right (by omega) (by omega)
  rw [show (6 : Nat) ^ 7 = 279936 by decide] at hpow hpow2
  cases kd with
  | false =>
    obtain ⟨rfl, rfl⟩ := hkd rfl
    try simp 
    refine CondK.intro (fun h1 => ?_) (fun h1 => ?_)
    · simp at h1
      replace h1 : 0 < n := by omega
      obtain ⟨hNXl, hNXn, hlv⟩ := hstep h1
      clear hstep
      have hNX : ([[]] : List (List Int)).flatMap (kidsO n) = (idsN n).map fun s => [s] := by
        simp only [List.flatMap_cons, List.flatMap_nil, List.append_nil, kidsO]
        rw [List.filter_eq_self.2 (by simp)]
        rfl
      rw [hNX] at hNXl hNXn hlv
      generalize hM : (idsN n).map (fun s => [s]) = NX at *
      repeat (refine PreK.intro (by first | omega | (intros; first | omega | (refine ⟨by omega, ?_⟩; simp_all; done) | (simp_all; done) | (simp_all; omega))) fun _ => ?_; (try simp ))
      refine LoopK.by (ι := Nat × Nat × List (List Int)) (fun x => ⟨[(6, iv x.1), (5, .sl 5 x.2.1 0 x.2.2.length), (4, iv 0), (3, .seq 1 [.seq 1 [] true] false), (0, iv n)], [(5, some ⟨1, x.2.2.map ints, x.2.1, false⟩)]⟩) (fun x => 1 - x.1)
        (fun x => x.1 ≤ 1 ∧ (x.1 = 0 → x.2.2 = []) ∧ (x.1 = 1 → x.2.2 = NX)) (0, 1, []) ⟨Nat.zero_le _, fun _ => rfl, fun h => by cases h⟩ (by simp) ?_
      intro ⟨j, v, acc⟩ Q2 ⟨hj, hj0, hj1⟩ hq2 he2 hr2
      dsimp only at hj hj0 hj1
      match j, hj with
      | 0, _ =>
        obtain rfl := hj0 rfl
        try simp 
        refine CondK.tt ?_
        try simp 
        repeat (refine PreK.intro (by first | omega | (intros; first | omega | (refine ⟨by omega, ?_⟩; simp_all; done) | (simp_all; done) | (simp_all; omega))) fun _ => ?_; (try simp ))
        refine LoopK.by (ι := Nat × Nat × List (List Int)) (fun x => ⟨[(7, iv x.1), (6, iv 0), (5, .sl 5 x.2.1 0 x.2.2.length), (4, iv 0), (3, .seq 1 [.seq 1 [] true] false), (0, iv n)], [(5, some ⟨1, x.2.2.map ints, x.2.1, false⟩)]⟩) (fun x => n - x.1)
          (fun x => x.1 ≤ n ∧ x.2.2.length = x.1 ∧ x.2.2 ++ ((idsN n).drop x.1).map (fun s => [s]) = NX) (0, v, []) ⟨Nat.zero_le _, rfl, by simpa using hM⟩ (by simp) ?_
        intro ⟨k, v2, ac2⟩ Q3 ⟨hk, hkl, hc3⟩ hq3 he3 hr3
        dsimp only at hk hkl hc3
        try simp 
        refine CondK.intro (fun h3 => ?_) (fun h3 => ?_)
        · simp at h3
          have hh := has1_c [] (k : Int) (by simp)
          rw [show ([] : List Int).contains (k : Int) = false from rfl] at hh
          rw [drop_cons (idsN n) k (by rw [ids_len]; exact h3), el_ids h3, List.map_cons] at hc3
          try simp 
          repeat (refine PreK.intro (by first | omega | (intros; first | omega | (refine ⟨by omega, ?_⟩; simp_all; done) | (simp_all; done) | (simp_all; omega))) fun _ => ?_; (try simp ))
          refine CallX.pure (by simpa using hh) (by simp) (by simp) ?_
          try simp 
          refine CondK.tt ?_
          try simp 
          try simp 
          repeat (refine PreK.intro (by first | omega | (intros; first | omega | (refine ⟨by omega, ?_⟩; simp_all; done) | (simp_all; done) | (simp_all; omega))) fun _ => ?_; (try simp ))
          exact hq3 (k + 1, v2 + 1, ac2 ++ [[(k : Int)]]) _ ⟨by dsimp only; omega, by simp; omega, by simpa using hc3⟩ (by dsimp only; omega) (by simp)
        · simp at h3
          rw [List.drop_eq_nil_of_le (by rw [ids_len]; omega), List.map_nil, List.append_nil] at hc3
          try simp 
          apply he3
          repeat (refine PreK.intro (by first | omega | (intros; first | omega | (refine ⟨by omega, ?_⟩; simp_all; done) | (simp_all; done) | (simp_all; omega))) fun _ => ?_; (try simp ))
          exact hq2 (1, v2, ac2) _ ⟨Nat.le_refl _, (fun h => by cases h), fun _ => hc3⟩ (by dsimp only; omega) (by simp)
      | 1, _ =>
        obtain rfl := hj1 rfl
        try simp 
        refine CondK.ff ?_
        try simp 
        try simp 
        apply he2
        repeat (refine PreK.intro (by first | omega | (intros; first | omega | (refine ⟨by omega, ?_⟩; simp_all; done) | (simp_all; done) | (simp_all; omega))) fun _ => ?_; (try simp ))
        refine hfz 5 ⟨1, acc.map ints, v, false⟩ _ (by simp) (by simp) ?_
        exact hq (true, 1, acc) _ ⟨by dsimp only; omega, hNXl, hNXn, hlv, fun h => by cases h⟩ (by dsimp only; omega) (by simp)
    · simp at h1
      omega
  | true =>
    try simp 
    refine CondK.intro (fun h1 => ?_) (fun h1 => ?_)
    · simp at h1
      obtain ⟨hNXl, hNXn, hlv⟩ := hstep h1
      generalize hNX : out.flatMap (kidsO n) = NX at *
      repeat (refine PreK.intro (by first | omega | (intros; first | omega | (refine ⟨by omega, ?_⟩; simp_all; done) | (simp_all; done) | (simp_all; omega))) fun _ => ?_; (try simp ))
      refine LoopK.by (ι := Nat × Nat × List (List Int)) (fun x => ⟨[(6, iv x.1), (5, .sl 5 x.2.1 0 x.2.2.length), (4, iv i), (3, tabV out), (0, iv n)], [(5, some ⟨1, x.2.2.map ints, x.2.1, false⟩)]⟩) (fun x => out.length - x.1)
        (fun x => x.1 ≤ out.length ∧ x.2.2 ++ (out.drop x.1).flatMap (kidsO n) = NX) (0, 1, []) ⟨Nat.zero_le _, by simpa using hNX⟩ (by simp) ?_
      intro ⟨j, v, acc⟩ Q2 ⟨hj, hc2⟩ hq2 he2 hr2
      dsimp only at hj hc2
      try simp 
      refine CondK.intro (fun h2 => ?_) (fun h2 => ?_)
      · simp at h2
        have hbl := hlen _ (el_mem_of out j h2)
        rw [drop_cons out j h2, List.flatMap_cons] at hc2
        generalize hrest : (out.drop (j + 1)).flatMap (kidsO n) = rest at hc2
        have hk0 : acc ++ (((((idsN n).drop 0).filter fun s => !(el out j).contains s).map fun s => el out j ++ [s]) ++ rest) = NX := by simpa [kidsO] using hc2
        try simp [h2]
        repeat (refine PreK.intro (by first | omega | (intros; first | omega | (refine ⟨by omega, ?_⟩; simp_all; done) | (simp_all; done) | (simp_all; omega))) fun _ => ?_; (try simp [h2]))
        refine LoopK.by (ι := Nat × Nat × List (List Int)) (fun x => ⟨[(7, iv x.1), (6, iv j), (5, .sl 5 x.2.1 0 x.2.2.length), (4, iv i), (3, tabV out), (0, iv n)], [(5, some ⟨1, x.2.2.map ints, x.2.1, false⟩)]⟩) (fun x => n - x.1)
          (fun x => x.1 ≤ n ∧ x.2.2 ++ (((((idsN n).drop x.1).filter fun s => !(el out j).contains s).map fun s => el out j ++ [s]) ++ rest) = NX) (0, v, acc) ⟨Nat.zero_le _, hk0⟩ (by simp) ?_
        intro ⟨k, v2, ac2⟩ Q3 ⟨hk, hc3⟩ hq3 he3 hr3
        dsimp only at hk hc3
        have hacl := congrArg List.length hc3
        simp only [List.length_append] at hacl
        try simp 
        refine CondK.intro (fun h3 => ?_) (fun h3 => ?_)
        · simp at h3
          have hh := has1_c (el out j) k (sbig (by omega))
          rw [drop_cons (idsN n) k (by rw [ids_len]; exact h3), el_ids h3, List.filter_cons] at hc3
          generalize hcb : (el out j).contains (k : Int) = cb at hh hc3
          try simp [h2]
          repeat (refine PreK.intro (by first | omega | (intros; first | omega | (refine ⟨by omega, ?_⟩; simp_all; done) | (simp_all; done) | (simp_all; omega))) fun _ => ?_; (try simp [h2]))
          try simp [h2]
          repeat' (first
            | (refine CallX.pure (hh) (by simp) (by simp) ?_; try simp [h2])
            | (refine CallK.intro (hh) (by simp) (by simp) ?_; try simp [h2])
            | (refine CallG.intro (fun _ => hh) (by simp) (by simp) ?_; try simp [h2])
            | ((with_reducible refine PreK.intro ?_ ?_); (next => (first | omega | (intros; first | omega | (refine ⟨by omega, ?_⟩; repeat (first | assumption | constructor)) | assumption))); intro _; try simp [h2])
            | fail)
          cases cb with
          | true =>
            simp only [Bool.not_true, Bool.false_eq_true, if_false] at hc3
            refine CondK.ff ?_
            try simp 
            repeat (refine PreK.intro (by first | omega | (intros; first | omega | (refine ⟨by omega, ?_⟩; simp_all; done) | (simp_all; done) | (simp_all; omega))) fun _ => ?_; (try simp ))
            exact hq3 (k + 1, v2, ac2) _ ⟨by dsimp only; omega, hc3⟩ (by dsimp only; omega) (by simp)
          | false =>
            simp only [Bool.not_false, if_true, List.map_cons, List.cons_append] at hc3
            refine CondK.tt ?_
            try simp 
            try simp [h2]
            repeat (refine PreK.intro (by first | omega | (intros; first | omega | (refine ⟨by omega, ?_⟩; simp_all; done) | (simp_all; done) | (simp_all; omega))) fun _ => ?_; (try simp [h2]))
            exact hq3 (k + 1, v2 + 1, ac2 ++ [el out j ++ [(k : Int)]]) _ ⟨by dsimp only; omega, by simpa using hc3⟩ (by dsimp only; omega) (by simp [take_map_one])
        · simp at h3
          rw [List.drop_eq_nil_of_le (by rw [ids_len]; omega), List.filter_nil, List.map_nil, List.nil_append] at hc3
          try simp 
          apply he3
          repeat (refine PreK.intro (by first | omega | (intros; first | omega | (refine ⟨by omega, ?_⟩; simp_all; done) | (simp_all; done) | (simp_all; omega))) fun _ => ?_; (try simp ))
          exact hq2 (j + 1, v2, ac2) _ ⟨by dsimp only; omega, by dsimp only; rw [hrest]; exact hc3⟩ (by dsimp only; omega) (by simp)
      · simp at h2
        rw [List.drop_eq_nil_of_le (by omega), List.flatMap_nil, List.append_nil] at hc2
        subst hc2
        try simp 
        apply he2
        repeat (refine PreK.intro (by first | omega | (intros; first | omega | (refine ⟨by omega, ?_⟩; simp_all; done) | (simp_all; done) | (simp_all; omega))) fun _ => ?_; (try simp ))
        refine hfz 5 ⟨1, acc.map ints, v, false⟩ _ (by simp) (by simp) ?_
        exact hq (true, i + 1, acc) _ ⟨by dsimp only; omega, hNXl, hNXn, hlv, fun h => by cases h⟩ (by dsimp only; omega) (by simp)
    · simp at h1
      have : i = n := by omega
      subst this
      simp only [Nat.sub_self, levO] at hc
      subst hc
      try simp 
      apply he
      repeat (refine PreK.intro (by first | omega | (intros; first | omega | (refine ⟨by omega, ?_⟩; simp_all; done) | (simp_all; done) | (simp_all; omega))) fun _ => ?_; (try simp ))
/-! ### the first order, and the best one -/
def OrderE (n : Int) (f : List (List Int)) : List Int × Bool × Int := if famErr n f ≠ 0 then ([], false, famErr n f) else ((OrderM n.toNat f).1, (OrderM n.toNat f).2, 0)
theorem allO_num (n : Nat) (hn : n ≤ 6) : (allO n).length ≤ 279936 := by
  have : ∀ (m : Nat) (b : List Int), (ordF n m b).length ≤ 6 ^ m := by
    intro m
    induction m with
    | zero => intro b; simp [ordF]
    | succ m ih =>
      intro b
      have h1 := flat_len (ordF n m) (6 ^ m) (kidsO n b) fun x _ => ih x
      have h2 := kids_num n b
      have h3 : (kidsO n b).length * 6 ^ m ≤ 6 * 6 ^ m := Nat.mul_le_mul_right _ (by omega)
      rw [ordF, Nat.pow_succ, Nat.mul_comm (6 ^ m) 6]
      omega
  have h1 := this n []
  have h2 : 6 ^ n ≤ 6 ^ 7 := Nat.pow_le_pow_right (by omega) (by omega)
  unfold allO
  rw [show (6 : Nat) ^ 7 = 279936 by decide] at h2
  omega
def FewE (n : Int) (f : List (List Int)) : Int × Bool × Int := if famErr n f ≠ 0 then (0, false, famErr n f) else (fewM f n.toNat, decide (0 < fewM f n.toNat), 0)
theorem rFewest_c (n : Int) (f : List (List Int)) (h : Sm f) : CallP Tryz.prog 20 [iv n, tabV f] (.tup [iv (FewE n f).1, bv (FewE n f).2.1, iv (FewE n f).2.2]) := by
  refine C20 (by simp) ?_
  have hv := rValidateFamily_c n f h
  unfold FewE
  by_cases h0 : famErr n f = 0
  · obtain ⟨k, rfl, hf⟩ := famErr_zero h0
    have hro := rorders_c k hf.lo hf.hi
    have hnum := allO_num k hf.hi
    have hok : ∀ o ∈ allO k, OrdOK k o := fun o ho => mem_allO.1 ho
    rw [h0] at hv ⊢
    rw [Int.toNat_natCast]
    unfold fewM
    generalize allO k = L at *
    generalize hR : fewF f 0 L = R
    simp [A20]
    try simp 
    repeat' (first
      | (refine CallX.pure (hv) (by simp) (by simp) ?_; try simp )
      | (refine CallK.intro (hv) (by simp) (by simp) ?_; try simp )
      | (refine CallG.intro (fun _ => hv) (by simp) (by simp) ?_; try simp )
      | ((with_reducible refine PreK.intro ?_ ?_); (next => (first | omega | (intros; first | omega | (refine ⟨by omega, ?_⟩; repeat (first | assumption | constructor)) | assumption))); intro _; try simp )
      | fail)
    refine CondK.ff ?_
    try simp 
    repeat (refine PreK.intro (by first | omega | (intros; first | omega | (refine ⟨by omega, ?_⟩; simp_all; done) | (simp_all; done) | (simp_all; omega))) fun _ => ?_; (try simp ))
    try simp 
    repeat' (first
      | (refine CallX.pure (hro) (by simp) (by simp) ?_; try simp )
      | (refine CallK.intro (hro) (by simp) (by simp) ?_; try simp )
      | (refine CallG.intro (fun _ => hro) (by simp) (by simp) ?_; try simp )
      | ((with_reducible refine PreK.intro ?_ ?_); (next => (first | omega | (intros; first | omega | (refine ⟨by omega, ?_⟩; repeat (first | assumption | constructor)) | assumption))); intro _; try simp )
      | fail)
    refine LoopK.by (ι := Nat × Int) (fun x => ⟨[(10, iv x.1), (9, tabV L), (8, iv x.2), (1, tabV f)], []⟩) (fun x => L.length - x.1) (fun x => x.1 ≤ L.length ∧ fewF f x.2 (L.drop x.1) = R) (0, 0) ⟨Nat.zero_le _, by simpa using hR⟩ (by simp) ?_
    intro ⟨i, b⟩ Q' ⟨hi, hc⟩ hq he hr
    dsimp only at hi hc
    try simp 
    refine CondK.intro (fun h1 => ?_) (fun h1 => ?_)
    · simp at h1
      have hoi := hok _ (el_mem_of L i h1)
      have hfc := rfits_c f (el L i) k hf hoi
      have hmc := rmarks_c f (el L i) k hf hoi
      rw [drop_cons L i h1, fewF] at hc
      generalize fitsM (el L i) f = ft at hfc hc
      generalize marksN (el L i) f = m at hmc hc
      try simp [h1]
      repeat (refine PreK.intro (by first | omega | (intros; first | omega | (refine ⟨by omega, ?_⟩; simp_all; done) | (simp_all; done) | (simp_all; omega))) fun _ => ?_; (try simp [h1]))
      try simp [h1]
      repeat' (first
        | (refine CallX.pure (hfc) (by simp) (by simp) ?_; try simp [h1])
        | (refine CallK.intro (hfc) (by simp) (by simp) ?_; try simp [h1])
        | (refine CallG.intro (fun _ => hfc) (by simp) (by simp) ?_; try simp [h1])
        | ((with_reducible refine PreK.intro ?_ ?_); (next => (first | omega | (intros; first | omega | (refine ⟨by omega, ?_⟩; repeat (first | assumption | constructor)) | assumption))); intro _; try simp [h1])
        | fail)
      cases ft with
      | false =>
        simp only [Bool.false_eq_true, if_false] at hc
        refine CondK.tt ?_
        try simp 
        repeat (refine PreK.intro (by first | omega | (intros; first | omega | (refine ⟨by omega, ?_⟩; simp_all; done) | (simp_all; done) | (simp_all; omega))) fun _ => ?_; (try simp ))
        exact hq (i + 1, b) _ ⟨by dsimp only; omega, hc⟩ (by dsimp only; omega) (by simp)
      | true =>
        simp only [if_true] at hc
        refine CondK.ff ?_
        try simp 
        try simp [h1]
        repeat (refine PreK.intro (by first | omega | (intros; first | omega | (refine ⟨by omega, ?_⟩; simp_all; done) | (simp_all; done) | (simp_all; omega))) fun _ => ?_; (try simp [h1]))
        try simp [h1]
        repeat' (first
          | (refine CallX.pure (hmc) (by simp) (by simp) ?_; try simp [h1])
          | (refine CallK.intro (hmc) (by simp) (by simp) ?_; try simp [h1])
          | (refine CallG.intro (fun _ => hmc) (by simp) (by simp) ?_; try simp [h1])
          | ((with_reducible refine PreK.intro ?_ ?_); (next => (first | omega | (intros; first | omega | (refine ⟨by omega, ?_⟩; repeat (first | assumption | constructor)) | assumption))); intro _; try simp [h1])
          | fail)
        by_cases h2 : b = 0
        · subst h2
          rw [if_pos (.inl rfl)] at hc
          try simp 
          repeat (refine PreK.intro (by first | omega | (intros; first | omega | (refine ⟨by omega, ?_⟩; simp_all; done) | (simp_all; done) | (simp_all; omega))) fun _ => ?_; (try simp ))
          refine CondK.tt ?_
          try simp 
          repeat (refine PreK.intro (by first | omega | (intros; first | omega | (refine ⟨by omega, ?_⟩; simp_all; done) | (simp_all; done) | (simp_all; omega))) fun _ => ?_; (try simp ))
          exact hq (i + 1, (m : Int)) _ ⟨by dsimp only; omega, hc⟩ (by dsimp only; omega) (by simp)
        · by_cases h3 : (m : Int) < b
          · rw [if_pos (.inr h3)] at hc
            try simp [h2, h3]
            repeat (refine PreK.intro (by first | omega | (intros; first | omega | (refine ⟨by omega, ?_⟩; simp_all; done) | (simp_all; done) | (simp_all; omega))) fun _ => ?_; (try simp [h2, h3]))
            refine CondK.tt ?_
            try simp 
            repeat (refine PreK.intro (by first | omega | (intros; first | omega | (refine ⟨by omega, ?_⟩; simp_all; done) | (simp_all; done) | (simp_all; omega))) fun _ => ?_; (try simp ))
            exact hq (i + 1, (m : Int)) _ ⟨by dsimp only; omega, hc⟩ (by dsimp only; omega) (by simp)
          · rw [if_neg (by omega)] at hc
            try simp [h2, h3]
            repeat (refine PreK.intro (by first | omega | (intros; first | omega | (refine ⟨by omega, ?_⟩; simp_all; done) | (simp_all; done) | (simp_all; omega))) fun _ => ?_; (try simp [h2, h3]))
            refine CondK.ff ?_
            try simp 
            repeat (refine PreK.intro (by first | omega | (intros; first | omega | (refine ⟨by omega, ?_⟩; simp_all; done) | (simp_all; done) | (simp_all; omega))) fun _ => ?_; (try simp ))
            exact hq (i + 1, b) _ ⟨by dsimp only; omega, hc⟩ (by dsimp only; omega) (by simp)
    · simp at h1
      rw [List.drop_eq_nil_of_le (by omega), fewF] at hc
      subst hc
      try simp 
      apply he
      repeat (refine PreK.intro (by first | omega | (intros; first | omega | (refine ⟨by omega, ?_⟩; simp_all; done) | (simp_all; done) | (simp_all; omega))) fun _ => ?_; (try simp ))
  · rw [if_pos h0]
    generalize famErr n f = e at *
    simp [A20]
    try simp 
    repeat' (first
      | (refine CallX.pure (hv) (by simp) (by simp) ?_; try simp )
      | (refine CallK.intro (hv) (by simp) (by simp) ?_; try simp )
      | (refine CallG.intro (fun _ => hv) (by simp) (by simp) ?_; try simp )
      | ((with_reducible refine PreK.intro ?_ ?_); (next => (first | omega | (intros; first | omega | (refine ⟨by omega, ?_⟩; repeat (first | assumption | constructor)) | assumption))); intro _; try simp )
      | fail)
    refine CondK.intro (fun h1 => ?_) (fun h1 => ?_)
    · repeat (refine PreK.intro (by first | omega | (intros; first | omega | (refine ⟨by omega, ?_⟩; simp_all; done) | (simp_all; done) | (simp_all; omega))) fun _ => ?_; (try simp ))
    · simp at h1
      exact absurd h1 h0
end Go.Proofs.YtgfgkfkplidncaaGreat
end

section
/- Contracts: the program's orders, marks and tables. -/
namespace Go.Proofs.YtgfgkfkplidncaaGreat
open Go.Abs Go
set_option maxRecDepth 20000
set_option maxHeartbeats 2000000
attribute [local irreducible] PreK CondK CallK CallG CallX LoopK
attribute [local simp] avsEq avEq akind teq vkind vEq

theorem callB_weak {P : Program} {f : FuncId} {as' : List AV} {m m' : List (Nat × Option Box)} {r : AV} (h : CallB P f (weakL as') m r m') : CallB P f as' m r m' :=
  ⟨h.1, fun w X μ vs h1 h2 h3 h4 h5 => h.2 w X μ vs h1 h2 h3 (by rw [weakL_length]; exact h4) fun i hi => by
    rw [weakL_length] at hi
    rw [weakL_get hi]
    exact (h5 i hi).weak⟩
theorem best_c (f : List (List Int)) (n : Nat) (hf : FamOK n f) : CallP Tryz.prog 62 [iv n, tabV f] (.tup [ints (bestF f n).1, ints (bestF f n).2, bv (decide ((bestF f n).1 ≠ []))]) := by
  refine C62 (by simp) ?_
  have hd := orders2_b f n hf n [] ([], []) (fun h => absurd rfl h) (by simp) (by simp) (by simp)
  have hI := bothI_run f (ordF n n []) ([], []) (fun h => absurd rfl h)
  unfold bestF allO
  generalize runT (stepB f) ([], []) (ordF n n []) = R at hd hI ⊢
  obtain ⟨⟨s1, s2⟩, r⟩ := R
  unfold bothI at hI
  dsimp only at hd hI ⊢
  simp only [bM, bP, slV_nil] at hd
  simp [A62]
  by_cases h1 : s1 = []
  · subst h1
    simp only [slV_nil] at hd
    rcases slV_cases s2 with e2 | e2
    · have : s2 = [] := by
        unfold slV at e2
        split at e2
        · assumption
        · cases e2
      subst this
      simp only [e2] at hd
      refine CallX.boxes [(3, 1, 101), (7, 1, 102), (8, 1, 103)] (by simp) (callB_weak (by simpa [weakL, weak] using hd)) ?_
      try simp 
      repeat (refine PreK.intro (by first | omega | (intros; first | omega | (refine ⟨by omega, ?_⟩; simp_all; done) | (simp_all; done) | (simp_all; omega))) fun _ => ?_; (try simp ))
    · simp only [e2] at hd
      refine CallX.boxes [(3, 1, 101), (7, 1, 102), (8, 1, 103)] (by simp) (callB_weak (by simpa [weakL, weak] using hd)) ?_
      try simp 
      repeat (refine PreK.intro (by first | omega | (intros; first | omega | (refine ⟨by omega, ?_⟩; simp_all; done) | (simp_all; done) | (simp_all; omega))) fun _ => ?_; (try simp ))
  · simp only [slV_ne h1, slV_ne (hI h1)] at hd
    refine CallX.boxes [(3, 1, 101), (7, 1, 102), (8, 1, 103)] (by simp) (callB_weak (by simpa [weakL, weak] using hd)) ?_
    try simp [h1]
    repeat (refine PreK.intro (by first | omega | (intros; first | omega | (refine ⟨by omega, ?_⟩; simp_all; done) | (simp_all; done) | (simp_all; omega))) fun _ => ?_; (try simp [h1]))
theorem Order_c (n : Int) (f : List (List Int)) (hs : Sm f) : CallP Tryz.prog 37 [iv n, tabV f] (.tup [ints (OrderE n f).1, bv (OrderE n f).2.1, iv (OrderE n f).2.2]) := by
  refine C37 (by simp) ?_
  have hv := ValidateFamily_c n f hs
  unfold OrderE
  by_cases h0 : famErr n f = 0
  · obtain ⟨k, rfl, hf⟩ := famErr_zero h0
    rw [if_neg (by simpa using h0)]
    rw [h0] at hv
    have hd := orders1_b f k hf k [] [] trivial (by simp) (by simp) (by simp)
    rw [Int.toNat_natCast, order_spec hf.lo f]
    unfold allO
    generalize runT (stepO f) [] (ordF k k []) = R at hd ⊢
    obtain ⟨s1, r⟩ := R
    dsimp only at hd ⊢
    simp only [oM, oP, slV_nil] at hd
    simp [A37]
    try simp 
    repeat' (first
      | (refine CallX.pure (hv) (by simp) (by simp) ?_; try simp )
      | (refine CallK.intro (hv) (by simp) (by simp) ?_; try simp )
      | (refine CallG.intro (fun _ => hv) (by simp) (by simp) ?_; try simp )
      | ((with_reducible refine PreK.intro ?_ ?_); (next => (first | omega | (intros; first | omega | (refine ⟨by omega, ?_⟩; repeat (first | assumption | constructor)) | assumption))); intro _; try simp )
      | fail)
    refine CondK.ff ?_
    try simp 
    repeat (refine PreK.intro (by first | omega | (intros; first | omega | (refine ⟨by omega, ?_⟩; simp_all; done) | (simp_all; done) | (simp_all; omega))) fun _ => ?_; (try simp ))
    by_cases h1 : s1 = []
    · subst h1
      simp only [slV_nil] at hd
      refine CallX.boxes [(3, 1, 101), (8, 1, 102)] (by simp) (callB_weak (by simpa [weakL, weak] using hd)) ?_
      try simp 
      repeat (refine PreK.intro (by first | omega | (intros; first | omega | (refine ⟨by omega, ?_⟩; simp_all; done) | (simp_all; done) | (simp_all; omega))) fun _ => ?_; (try simp ))
    · simp only [slV_ne h1] at hd
      refine CallX.boxes [(3, 1, 101), (8, 1, 102)] (by simp) (callB_weak (by simpa [weakL, weak] using hd)) ?_
      try simp [h1]
      repeat (refine PreK.intro (by first | omega | (intros; first | omega | (refine ⟨by omega, ?_⟩; simp_all; done) | (simp_all; done) | (simp_all; omega))) fun _ => ?_; (try simp [h1]))
  · rw [if_pos h0]
    generalize famErr n f = e at *
    simp [A37]
    try simp 
    repeat' (first
      | (refine CallX.pure (hv) (by simp) (by simp) ?_; try simp )
      | (refine CallK.intro (hv) (by simp) (by simp) ?_; try simp )
      | (refine CallG.intro (fun _ => hv) (by simp) (by simp) ?_; try simp )
      | ((with_reducible refine PreK.intro ?_ ?_); (next => (first | omega | (intros; first | omega | (refine ⟨by omega, ?_⟩; repeat (first | assumption | constructor)) | assumption))); intro _; try simp )
      | fail)
    refine CondK.intro (fun h1 => ?_) (fun h1 => ?_)
    · repeat (refine PreK.intro (by first | omega | (intros; first | omega | (refine ⟨by omega, ?_⟩; simp_all; done) | (simp_all; done) | (simp_all; omega))) fun _ => ?_; (try simp ))
    · simp at h1
      exact absurd h1 h0
theorem Fewest_c (n : Int) (f : List (List Int)) (hs : Sm f) : CallP Tryz.prog 30 [iv n, tabV f] (.tup [iv (FewE n f).1, bv (FewE n f).2.1, iv (FewE n f).2.2]) := by
  refine C30 (by simp) ?_
  have hv := ValidateFamily_c n f hs
  unfold FewE
  by_cases h0 : famErr n f = 0
  · obtain ⟨k, rfl, hf⟩ := famErr_zero h0
    have hb := best_c f k hf
    have hok := best_ok hf.lo f
    have hnn := (few_le f (allO k) 0 (Int.le_refl 0)).1
    rw [if_neg (by simpa using h0)]
    rw [h0] at hv
    rw [Int.toNat_natCast]
    rw [show fewF f 0 (allO k) = fewM f k from rfl] at hnn
    generalize fewM f k = m at *
    generalize bestF f k = B at *
    obtain ⟨o, l⟩ := B
    obtain ⟨b1, b2, _⟩ := hok
    dsimp only at hb b1 b2
    subst b1
    have hdec : decide (o ≠ []) = decide (0 < (l.length : Int)) := by
      rw [Bool.eq_iff_iff]
      simp only [decide_eq_true_eq, ne_eq, b2]
      omega
    rw [hdec] at hb
    simp [A30]
    try simp 
    repeat' (first
      | (refine CallX.pure (hv) (by simp) (by simp) ?_; try simp )
      | (refine CallK.intro (hv) (by simp) (by simp) ?_; try simp )
      | (refine CallG.intro (fun _ => hv) (by simp) (by simp) ?_; try simp )
      | ((with_reducible refine PreK.intro ?_ ?_); (next => (first | omega | (intros; first | omega | (refine ⟨by omega, ?_⟩; repeat (first | assumption | constructor)) | assumption))); intro _; try simp )
      | fail)
    refine CondK.ff ?_
    try simp 
    try simp 
    repeat' (first
      | (refine CallX.pure (hb) (by simp) (by simp) ?_; try simp )
      | (refine CallK.intro (hb) (by simp) (by simp) ?_; try simp )
      | (refine CallG.intro (fun _ => hb) (by simp) (by simp) ?_; try simp )
      | ((with_reducible refine PreK.intro ?_ ?_); (next => (first | omega | (intros; first | omega | (refine ⟨by omega, ?_⟩; repeat (first | assumption | constructor)) | assumption))); intro _; try simp )
      | fail)
    repeat (refine PreK.intro (by first | omega | (intros; first | omega | (refine ⟨by omega, ?_⟩; simp_all; done) | (simp_all; done) | (simp_all; omega))) fun _ => ?_; (try simp ))
  · rw [if_pos h0]
    generalize famErr n f = e at *
    simp [A30]
    try simp 
    repeat' (first
      | (refine CallX.pure (hv) (by simp) (by simp) ?_; try simp )
      | (refine CallK.intro (hv) (by simp) (by simp) ?_; try simp )
      | (refine CallG.intro (fun _ => hv) (by simp) (by simp) ?_; try simp )
      | ((with_reducible refine PreK.intro ?_ ?_); (next => (first | omega | (intros; first | omega | (refine ⟨by omega, ?_⟩; repeat (first | assumption | constructor)) | assumption))); intro _; try simp )
      | fail)
    refine CondK.intro (fun h1 => ?_) (fun h1 => ?_)
    · repeat (refine PreK.intro (by first | omega | (intros; first | omega | (refine ⟨by omega, ?_⟩; simp_all; done) | (simp_all; done) | (simp_all; omega))) fun _ => ?_; (try simp ))
    · simp at h1
      exact absurd h1 h0
/-! ### the program has the classes that the document gives -/
theorem classes_srt {t : Tab} (h : TabOK t) : classesM t = insA [] ((namesM t).map fun n => srtM (segM t n.1 n.2.toNat)) := by
  have h1 : setsM t = (namesM t).map fun n => srtM (segM t n.1 n.2.toNat) := by
    unfold setsM
    refine List.map_congr_left fun x _ => ?_
    exact srtM_eq (seg_nd h _ _) fun y hy => seg_val h hy
  rw [← h1]
  exact uniq_insA fun z => Iff.rfl
theorem known_c : CallP Tryz.prog 13 [] (bv true) := by
  refine C13 (by simp) ?_
  have s1 : Sm [[0, 1], [2]] := ⟨by simp, by intro r hr; simp at hr; rcases hr with rfl | rfl <;> simp⟩
  have s2 : Sm [[0, 1], [1, 2], [0, 2]] := ⟨by simp, by intro r hr; simp at hr; rcases hr with rfl | rfl | rfl <;> simp⟩
  have hC := Classes_c [[0, 1], [2]] s1
  have hO := Order_c 3 [[0, 1], [1, 2], [0, 2]] s2
  have t0 : tabErr [[0, 1], [2]] = 0 := by decide +kernel
  have e1 : ClassesE [[0, 1], [2]] = ([[0, 1], [0, 1, 2], [1], [1, 2], [2]], 0) := by
    unfold ClassesE
    rw [if_neg (by simpa using t0), classes_srt (tabErr_zero.1 t0)]
    decide +kernel
  have e2 : OrderE 3 [[0, 1], [1, 2], [0, 2]] = ([], false, 0) := by decide +kernel
  rw [e1] at hC
  rw [e2] at hO
  have h2 := sameLists_c [[0, 1], [0, 1, 2], [1], [1, 2], [2]] [[0, 1], [0, 1, 2], [1], [1, 2], [2]] (by simp [big]) (by simp [big])
  simp [A13]
  simp at hC hO h2
  refine CallX.pure (CallP.weak (by simpa [weakL, weak] using hC)) (by simp) (by simp) ?_
  try simp 
  refine CallX.pure (CallP.weak (by simpa [weakL, weak] using hO)) (by simp) (by simp) ?_
  try simp 
  repeat (refine PreK.intro (by first | omega | (intros; first | omega | (refine ⟨by omega, ?_⟩; simp_all; done) | (simp_all; done) | (simp_all; omega))) fun _ => ?_; (try simp ))
  refine CallG.intro (fun _ => CallP.weak (by simpa [weakL, weak] using h2)) (by simp) (by simp) ?_
  try simp 
  repeat (refine PreK.intro (by first | omega | (intros; first | omega | (refine ⟨by omega, ?_⟩; simp_all; done) | (simp_all; done) | (simp_all; omega))) fun _ => ?_; (try simp ))
end Go.Proofs.YtgfgkfkplidncaaGreat
end

section
/- Contracts: the statements SoundTables, SoundFits, SoundOrders, SoundFewest, SoundNames. -/
namespace Go.Proofs.YtgfgkfkplidncaaGreat
open Go.Abs Go
set_option maxRecDepth 20000
set_option maxHeartbeats 2000000
attribute [local irreducible] PreK CondK CallK CallG CallX LoopK
attribute [local simp] avsEq avEq akind teq vkind vEq

theorem sameNames_c (a b : List (Int × Int)) (ha : a.length ≤ 1000) : CallP Tryz.prog 16 [namesV a, namesV b] (bv (decide (a = b))) := by
  refine C16 (by simp) ?_
  generalize hR : decide (a = b) = R
  simp [A16]
  refine CondK.intro (fun h1 => ?_) (fun h1 => ?_)
  · simp at h1
    have : a ≠ b := fun e => h1 (by rw [e])
    simp [this] at hR
    simp [hR]
  · simp at h1
    try simp 
    refine LoopK.by (fun i : Nat => ⟨[(5, iv i), (0, namesV a), (1, namesV b)], []⟩) (fun i => a.length - i) (fun i => i ≤ a.length ∧ decide (a.drop i = b.drop i) = R) 0 (by simpa using hR) (by simp) ?_
    intro i Q' ⟨hi, hc⟩ hq he hr
    try simp 
    refine CondK.intro (fun h2 => ?_) (fun h2 => ?_)
    · simp at h2
      have h2b : i < b.length := by omega
      rw [drop_cons a i h2, drop_cons b i h2b] at hc
      try simp [h2, h2b]
      repeat (refine PreK.intro (by first | omega | (intros; first | omega | (refine ⟨by omega, ?_⟩; simp_all; done) | (simp_all; done) | (simp_all; omega))) fun _ => ?_; (try simp [h2, h2b]))
      refine CondK.intro (fun h3 => ?_) (fun h3 => ?_)
      · have hne : el a i ≠ el b i := fun e => by rw [e] at h3; simp at h3
        simp [hne] at hc
        try simp 
        apply hr
        simp [hc]
      · have heq : el a i = el b i := by
          simp at h3
          exact Prod.ext (by omega) (by omega)
        simp [heq] at hc
        repeat (refine PreK.intro (by first | omega | (intros; first | omega | (refine ⟨by omega, ?_⟩; simp_all; done) | (simp_all; done) | (simp_all; omega))) fun _ => ?_; (try simp ))
        exact hq (i + 1) _ ⟨by omega, by simpa using hc⟩ (by omega) (by simp)
    · simp at h2
      rw [List.drop_eq_nil_of_le (by omega), List.drop_eq_nil_of_le (by omega)] at hc
      simp at hc
      try simp 
      apply he
      simp [hc]
end Go.Proofs.YtgfgkfkplidncaaGreat
end

section
/- Contracts: by which names a set is named; the statements SoundStands, SoundNamed. -/
namespace Go.Proofs.YtgfgkfkplidncaaGreat
open Go.Abs Go
set_option maxRecDepth 20000
set_option maxHeartbeats 2000000
attribute [local irreducible] PreK CondK CallK CallG CallX LoopK
attribute [local simp] avsEq avEq akind teq vkind vEq

abbrev Nm := Int × Int
def idxG (p : Nm → Bool) : Nat → List Nm → Int
  | _, [] => -1
  | k, x :: r => if p x then k else idxG p (k + 1) r
theorem idxG_none {p : Nm → Bool} : ∀ {l : List Nm} {k : Nat}, idxG p k l = -1 → l.filter (fun x => !p x) = l
  | [], k, _ => rfl
  | x :: r, k, h => by
    rw [idxG] at h
    split at h
    · omega
    · rename_i hx
      simp only [Bool.not_eq_true] at hx
      simp [hx, idxG_none h]
theorem idxG_at {p : Nm → Bool} : ∀ {l : List Nm} {k : Nat}, idxG p k l ≠ -1 → ∃ i : Nat, idxG p k l = ((k + i : Nat) : Int) ∧ i < l.length ∧ (l.take i).filter (fun x => !p x) = l.take i ∧ p (el l i) = true
  | [], k, h => by simp [idxG] at h
  | x :: r, k, h => by
    rw [idxG] at h
    by_cases hx : p x = true
    · exact ⟨0, by rw [idxG, if_pos hx]; simp, by simp, by simp, by simpa [el] using hx⟩
    · rw [if_neg hx] at h
      obtain ⟨i, h1, h2, h3, h4⟩ := idxG_at h
      simp only [Bool.not_eq_true] at hx
      refine ⟨i + 1, by rw [idxG, hx]; simp only [Bool.false_eq_true, if_false]; rw [h1]; congr 1; omega, by simpa using h2, by simp [hx, h3], by simpa [el] using h4⟩
theorem el_setN (o : List Nm) (i k : Nat) (v : Nm) (hi : i < o.length) : el (o.set i v) k = if i = k then v else el o k := by
  unfold el
  rw [List.getD_eq_getElem?_getD, List.getD_eq_getElem?_getD, List.getElem?_set]
  by_cases h : i = k
  · subst h; simp [hi]
  · simp [h]
theorem indexFuncN_c (l : List Nm) (hl : l.length ≤ 1000) (f : FuncId) (cap : List AV) (p : Nm → Bool) (hp : ∀ x, CallP Tryz.prog f (pairV x :: cap) (bv (p x))) (h1 : ∀ m, snapL m cap = cap) (h2 : AV.refsL cap = []) (h3 : ∀ m, snapOKL m cap) :
    CallP Tryz.prog 86 [namesV l, .fn f [] cap] (iv (idxG p 0 l)) := by
  refine C86 (by simp) ?_
  generalize hR : idxG p 0 l = R
  simp [A86]
  refine LoopK.by (fun i : Nat => ⟨[(8, iv i), (7, iv l.length), (0, namesV l), (1, .fn f [] cap)], []⟩) (fun i => l.length - i) (fun i => i ≤ l.length ∧ idxG p i (l.drop i) = R) 0 (by simpa using hR) (by simp [h2]) ?_
  intro i Q' ⟨hi, hc⟩ hq he hr
  try simp 
  refine CondK.intro (fun h => ?_) (fun h => ?_)
  · simp at h
    rw [drop_cons l i h, idxG] at hc
    have hpx := hp (el l i)
    simp only [pairV] at hpx
    generalize p (el l i) = b at hpx hc
    try simp [h]
    repeat (refine PreK.intro (by first | omega | (intros; first | omega | (refine ⟨by omega, ?_⟩; simp_all; done) | (simp_all; done) | (simp_all; omega))) fun _ => ?_; (try simp [h]))
    refine CallX.pure (by simpa [h1] using hpx) (by simp [h3]) (by simp) ?_
    try simp 
    cases b with
    | true =>
      simp only [if_true] at hc
      refine CondK.tt ?_
      try simp 
      repeat (refine PreK.intro (by first | omega | (intros; first | omega | (refine ⟨by omega, ?_⟩; simp_all; done) | (simp_all; done) | (simp_all; omega))) fun _ => ?_; (try simp ))
      apply hr
      simp [hc]
    | false =>
      simp only [Bool.false_eq_true, if_false] at hc
      refine CondK.ff ?_
      try simp 
      repeat (refine PreK.intro (by first | omega | (intros; first | omega | (refine ⟨by omega, ?_⟩; simp_all; done) | (simp_all; done) | (simp_all; omega))) fun _ => ?_; (try simp ))
      exact hq (i + 1) _ ⟨by omega, hc⟩ (by omega) (by simp [h2])
  · simp at h
    rw [List.drop_eq_nil_of_le (by omega), idxG] at hc
    try simp 
    apply he
    simp [hc]
theorem deleteFuncN_L (l : List Nm) (hl : l.length ≤ 1000) (f : FuncId) (cap : List AV) (p : Nm → Bool) (hp : ∀ x, CallP Tryz.prog f (pairV x :: cap) (bv (p x))) (h1 : ∀ m, snapL m cap = cap) (h2 : AV.refsL cap = []) (h3 : ∀ m, snapOKL m cap) :
    CallL Tryz.prog 45 [] 2 (l.map pairV) [.fn f [] cap] (.part (l.filter fun x => !p x).length) (((l.filter fun x => !p x) ++ List.replicate (l.length - (l.filter fun x => !p x).length) (0, 0)).map pairV) := by
  refine CL45 (by simp) ?_
  generalize hR : (l.filter fun x => !p x) = R
  have hx := indexFuncN_c l hl f cap p hp h1 h2 h3
  simp [A45]
  refine CallX.pure (by simpa [h1] using hx) (by simp [h3]) (by simp) ?_
  try simp 
  refine CondK.intro (fun hc => ?_) (fun hc => ?_)
  · simp at hc
    have := idxG_none hc
    rw [this] at hR
    subst hR
    simp
  · simp at hc
    obtain ⟨i0, e1, e2, e3, e4⟩ := idxG_at hc
    rw [e1]
    repeat (refine PreK.intro (by first | omega | (intros; first | omega | (refine ⟨by omega, ?_⟩; simp_all; done) | (simp_all; done) | (simp_all; omega))) fun _ => ?_; (try simp ))
    have hin : l.take i0 ++ (l.drop (i0 + 1)).filter (fun x => !p x) = R := by
      rw [← hR]
      conv => rhs; rw [← List.take_append_drop i0 l, List.filter_append, e3, drop_cons l i0 e2]
      simp [e4]
    refine LoopK.by (ι := Nat × List Nm × List Nm) (fun i => ⟨[(6, iv i.1), (5, iv i.2.1.length), (0, .sl lid 0 0 l.length), (1, .fn f [] cap)], [(lid, some ⟨2, i.2.2.map pairV, 0, false⟩)]⟩) (fun i => l.length - i.1)
      (fun i => i.1 ≤ l.length ∧ i.2.1.length < i.1 ∧ i.2.2.length = l.length ∧ (∀ k, i.1 ≤ k → el i.2.2 k = el l k) ∧ i.2.2.take i.2.1.length = i.2.1 ∧ i.2.1 ++ (l.drop i.1).filter (fun x => !p x) = R) (i0 + 1, l.take i0, l) ⟨by dsimp only; omega, by simp; omega, rfl, fun _ _ => rfl, by simp, hin⟩ (by have hm : min i0 l.length = i0 := (by omega); simp [h2, hm]) ?_
    intro ⟨j, kept, cur⟩ Q' ⟨hj, hk, hcl, hce, hct, hin⟩ hq he hr
    dsimp only at hj hk hcl hce hct hin
    try simp 
    refine CondK.intro (fun h4 => ?_) (fun h4 => ?_)
    · simp at h4
      have hej := hce j (Nat.le_refl _)
      rw [drop_cons l j h4, List.filter_cons] at hin
      have hcj : j < cur.length := by omega
      have hpx := hp (el l j)
      simp only [pairV] at hpx
      generalize p (el l j) = b at hpx hin
      try simp [hcj, hej]
      repeat (refine PreK.intro (by first | omega | (intros; first | omega | (refine ⟨by omega, ?_⟩; simp_all; done) | (simp_all; done) | (simp_all; omega))) fun _ => ?_; (try simp [hcj, hej]))
      refine CallX.pure (by simpa [h1, hej] using hpx) (by simp [h3]) (by simp) ?_
      try simp 
      cases b with
      | false =>
        simp only [Bool.not_false, if_true] at hin
        have hkc : kept.length < cur.length := by omega
        try simp [hcj, hej, hkc]
        repeat (refine PreK.intro (by first | omega | (intros; first | omega | (refine ⟨by omega, ?_⟩; simp_all; done) | (simp_all; done) | (simp_all; omega))) fun _ => ?_; (try simp [hcj, hej, hkc]))
        refine CondK.tt ?_
        try simp 
        try simp [hcj, hej, hkc]
        repeat (refine PreK.intro (by first | omega | (intros; first | omega | (refine ⟨by omega, ?_⟩; simp_all; done) | (simp_all; done) | (simp_all; omega))) fun _ => ?_; (try simp [hcj, hej, hkc]))
        refine hq (j + 1, kept ++ [el l j], cur.set kept.length (el l j)) _ ⟨by dsimp only; omega, by simp; omega, by simpa using hcl, fun k hk2 => ?_, ?_, by simpa using hin⟩ (by dsimp only; omega) (by simp [h2, hkc, hcj, hej, List.map_set])
        · dsimp only at hk2 ⊢
          rw [el_setN _ _ _ _ (by omega), if_neg (by omega)]
          exact hce k (by omega)
        · simp only [List.length_append, List.length_cons, List.length_nil]
          rw [take_setG _ _ _ (by omega), hct]
      | true =>
        simp only [Bool.not_true, Bool.false_eq_true, if_false] at hin
        try simp [hcj, hej]
        repeat (refine PreK.intro (by first | omega | (intros; first | omega | (refine ⟨by omega, ?_⟩; simp_all; done) | (simp_all; done) | (simp_all; omega))) fun _ => ?_; (try simp [hcj, hej]))
        refine CondK.ff ?_
        try simp 
        repeat (refine PreK.intro (by first | omega | (intros; first | omega | (refine ⟨by omega, ?_⟩; simp_all; done) | (simp_all; done) | (simp_all; omega))) fun _ => ?_; (try simp ))
        exact hq (j + 1, kept, cur) _ ⟨by dsimp only; omega, by dsimp only; omega, hcl, fun k hk2 => hce k (by dsimp only at hk2; omega), hct, hin⟩ (by dsimp only; omega) (by simp [h2])
    · simp at h4
      rw [List.drop_eq_nil_of_le (by omega)] at hin
      simp only [List.filter_nil, List.append_nil] at hin
      subst hin
      have e5 : (cur.map pairV).take kept.length = kept.map pairV := by rw [← List.map_take, hct]
      have e6 : (cur.map pairV).drop (kept.length + (l.length - kept.length)) = [] := List.drop_eq_nil_of_le (by simp; omega)
      try simp 
      apply he
      repeat (refine PreK.intro (by first | omega | (intros; first | omega | (refine ⟨by omega, ?_⟩; simp_all; done) | (simp_all; done) | (simp_all; omega))) fun _ => ?_; (try simp ))
      simp [e5, e6]
theorem standE_len {t : Tab} (h : TabOK t) (s r : Int) : (standE t s r).1.length ≤ 6 := by
  unfold standE
  split
  · exact six_len ((sortI_perm _).nodup_iff.2 (seg_nd h _ _)) fun y hy => seg_val h (mem_sortI.1 hy)
  · simp
theorem named1_c (t : Tab) (h : TabOK t) (set : List Int) (x : Nm) : CallP Tryz.prog 47 [pairV x, .ipt (lineV t) 0, .ipt (ints set) 0] (bv (!decide ((standE t x.1 x.2).1 = set))) := by
  refine C47 (by simp) ?_
  have hst := stand_c t h x.1 x.2
  have hel := standE_len h x.1 x.2
  unfold lineV at hst ⊢
  generalize standE t x.1 x.2 = S at *
  generalize t.flatten = L at *
  generalize rowsF 0 t = R at *
  obtain ⟨own, ok⟩ := S
  dsimp only at *
  have heq := equal_c own set (sbig (by omega))
  simp [A47]
  try simp 
  repeat' (first
    | (refine CallX.pure (hst) (by simp) (by simp) ?_; try simp )
    | (refine CallK.intro (hst) (by simp) (by simp) ?_; try simp )
    | (refine CallG.intro (fun _ => hst) (by simp) (by simp) ?_; try simp )
    | ((with_reducible refine PreK.intro ?_ ?_); (next => (first | omega | (intros; first | omega | (refine ⟨by omega, ?_⟩; repeat (first | assumption | constructor)) | assumption))); intro _; try simp )
    | fail)
  repeat (refine PreK.intro (by first | omega | (intros; first | omega | (refine ⟨by omega, ?_⟩; simp_all; done) | (simp_all; done) | (simp_all; omega))) fun _ => ?_; (try simp ))
  try simp 
  repeat' (first
    | (refine CallX.pure (heq) (by simp) (by simp) ?_; try simp )
    | (refine CallK.intro (heq) (by simp) (by simp) ?_; try simp )
    | (refine CallG.intro (fun _ => heq) (by simp) (by simp) ?_; try simp )
    | ((with_reducible refine PreK.intro ?_ ?_); (next => (first | omega | (intros; first | omega | (refine ⟨by omega, ?_⟩; repeat (first | assumption | constructor)) | assumption))); intro _; try simp )
    | fail)
  repeat (refine PreK.intro (by first | omega | (intros; first | omega | (refine ⟨by omega, ?_⟩; simp_all; done) | (simp_all; done) | (simp_all; omega))) fun _ => ?_; (try simp ))
def namedM (t : Tab) (set : List Int) : List Nm := (namesM t).filter fun x => decide (standM t x.1 x.2.toNat = set)
def NamedE (t : Tab) (set : List Int) : List Nm × Int := if tabErr t ≠ 0 then ([], tabErr t) else if setG 5 none set = false then ([], 1) else (namedM t set, 0)
theorem Named_c (t : Tab) (set : List Int) (h : Sm t) (hsl : set.length ≤ 1000) : CallP Tryz.prog 14 [tabV t, ints set] (.tup [namesV (NamedE t set).1, iv (NamedE t set).2]) := by
  refine C14 (by simp) ?_
  have hv := Validate_c t h
  have hi := isSet_c set 6 hsl (by omega)
  unfold NamedE
  by_cases h0 : tabErr t = 0
  · have hok := tabErr_zero.1 h0
    have hlo := lineOf_c t hok
    have hno := names_o t hok
    have hnn := names_num hok
    have hd := deleteFuncN_L (namesM t) (by omega) 47 [.ipt (lineV t) 0, .ipt (ints set) 0] _ (named1_c t hok set) (by simp) (by simp) (by simp)
    have hfl : ((namesM t).filter fun x => !!decide ((standE t x.1 x.2).1 = set)) = namedM t set := by
      unfold namedM
      refine List.filter_congr fun x hx => ?_
      have hn := (mem_namesM hok).1 hx
      rw [Bool.not_not, show standE t x.1 x.2 = (standM t x.1 x.2.toNat, true) by simp [standE, hn]]
    rw [hfl] at hd
    rw [h0] at hv ⊢
    rw [if_neg (by simp)]
    rw [show (6 : Int) - 1 = 5 by omega] at hi
    have hml : (namedM t set).length ≤ (namesM t).length := List.length_filter_le _ _
    unfold lineV at hlo hd
    generalize namesM t = N at *
    generalize namedM t set = M at *
    generalize t.flatten = L at *
    generalize rowsF 0 t = R at *
    generalize setG 5 none set = b at *
    simp [A14]
    try simp 
    repeat' (first
      | (refine CallX.pure (hv) (by simp) (by simp) ?_; try simp )
      | (refine CallK.intro (hv) (by simp) (by simp) ?_; try simp )
      | (refine CallG.intro (fun _ => hv) (by simp) (by simp) ?_; try simp )
      | ((with_reducible refine PreK.intro ?_ ?_); (next => (first | omega | (intros; first | omega | (refine ⟨by omega, ?_⟩; repeat (first | assumption | constructor)) | assumption))); intro _; try simp )
      | fail)
    refine CondK.ff ?_
    try simp 
    repeat (refine PreK.intro (by first | omega | (intros; first | omega | (refine ⟨by omega, ?_⟩; simp_all; done) | (simp_all; done) | (simp_all; omega))) fun _ => ?_; (try simp ))
    try simp 
    repeat' (first
      | (refine CallX.pure (hi) (by simp) (by simp) ?_; try simp )
      | (refine CallK.intro (hi) (by simp) (by simp) ?_; try simp )
      | (refine CallG.intro (fun _ => hi) (by simp) (by simp) ?_; try simp )
      | ((with_reducible refine PreK.intro ?_ ?_); (next => (first | omega | (intros; first | omega | (refine ⟨by omega, ?_⟩; repeat (first | assumption | constructor)) | assumption))); intro _; try simp )
      | fail)
    cases b with
    | false =>
      refine CondK.tt ?_
      try simp 
      repeat (refine PreK.intro (by first | omega | (intros; first | omega | (refine ⟨by omega, ?_⟩; simp_all; done) | (simp_all; done) | (simp_all; omega))) fun _ => ?_; (try simp ))
    | true =>
      refine CondK.ff ?_
      try simp 
      repeat (refine PreK.intro (by first | omega | (intros; first | omega | (refine ⟨by omega, ?_⟩; simp_all; done) | (simp_all; done) | (simp_all; omega))) fun _ => ?_; (try simp ))
      try simp 
      repeat' (first
        | (refine CallX.pure (hlo) (by simp) (by simp) ?_; try simp )
        | (refine CallK.intro (hlo) (by simp) (by simp) ?_; try simp )
        | (refine CallG.intro (fun _ => hlo) (by simp) (by simp) ?_; try simp )
        | ((with_reducible refine PreK.intro ?_ ?_); (next => (first | omega | (intros; first | omega | (refine ⟨by omega, ?_⟩; repeat (first | assumption | constructor)) | assumption))); intro _; try simp )
        | fail)
      repeat (refine PreK.intro (by first | omega | (intros; first | omega | (refine ⟨by omega, ?_⟩; simp_all; done) | (simp_all; done) | (simp_all; omega))) fun _ => ?_; (try simp ))
      refine CallX.own (by simpa using hno) (by simp) (by simp) ?_
      try simp 
      repeat (refine PreK.intro (by first | omega | (intros; first | omega | (refine ⟨by omega, ?_⟩; simp_all; done) | (simp_all; done) | (simp_all; omega))) fun _ => ?_; (try simp ))
      refine CallX.frz 7 (b := ⟨2, [.agg [ints L, ints R]], 1, true⟩) (by simp) (by simp) ?_
      refine CallX.frz 3 (b := ⟨1, [ints set], 1, true⟩) (by simp) (by simp) ?_
      try simp 
      refine CallX.lend [] (id := 19) (ver := 1) (n := N.length) (b := ⟨2, N.map pairV, 1, false⟩) [.fn 47 [] [.ipt (.agg [ints L, ints R]) 0, .ipt (ints set) 0]] (.part M.length) _ (by simp) (by simp) (by simp) (by simp) (by simp) (by simp) (by simp) (by simpa using hd) ?_
      repeat (refine PreK.intro (by first | omega | (intros; first | omega | (refine ⟨by omega, ?_⟩; simp_all; done) | (simp_all; done) | (simp_all; omega))) fun _ => ?_; (try simp ))
  · rw [if_pos h0]
    generalize tabErr t = e at *
    simp [A14]
    try simp 
    repeat' (first
      | (refine CallX.pure (hv) (by simp) (by simp) ?_; try simp )
      | (refine CallK.intro (hv) (by simp) (by simp) ?_; try simp )
      | (refine CallG.intro (fun _ => hv) (by simp) (by simp) ?_; try simp )
      | ((with_reducible refine PreK.intro ?_ ?_); (next => (first | omega | (intros; first | omega | (refine ⟨by omega, ?_⟩; repeat (first | assumption | constructor)) | assumption))); intro _; try simp )
      | fail)
    refine CondK.intro (fun h1 => ?_) (fun h1 => ?_)
    · repeat (refine PreK.intro (by first | omega | (intros; first | omega | (refine ⟨by omega, ?_⟩; simp_all; done) | (simp_all; done) | (simp_all; omega))) fun _ => ?_; (try simp ))
    · simp at h1
      exact absurd h1 h0
theorem rNamed_c (t : Tab) (set : List Int) (h : Sm t) (hsl : set.length ≤ 1000) : CallP Tryz.prog 15 [tabV t, ints set] (.tup [namesV (NamedE t set).1, iv (NamedE t set).2]) := by
  refine C15 (by simp) ?_
  have hv := rValidate_c t h
  have hi := rIsSet_c set 5 hsl (by omega)
  unfold NamedE
  by_cases h0 : tabErr t = 0
  · have hok := tabErr_zero.1 h0
    have hno := rnames_c t hok
    have hnn := names_num hok
    have hst : ∀ x ∈ namesM t, CallP Tryz.prog 53 [tabV t, pairV x] (ints (standM t x.1 x.2.toNat)) ∧ (standM t x.1 x.2.toNat).length ≤ 6 := by
      intro x hx
      obtain ⟨s, r⟩ := x
      obtain ⟨h1, h2, h3⟩ := name_of ((mem_namesM hok).1 hx)
      obtain ⟨k, rfl⟩ : ∃ k : Nat, r = (k : Int) := ⟨r.toNat, by omega⟩
      simp only [Int.toNat_natCast] at h2 h3 ⊢
      rw [stand_srt hok]
      refine ⟨rstand_c t hok s k h2, ?_⟩
      rw [← stand_srt hok]
      exact six_len ((sortI_perm _).nodup_iff.2 (seg_nd hok _ _)) fun y hy => seg_val hok (mem_sortI.1 hy)
    rw [h0] at hv ⊢
    rw [if_neg (by simp)]
    generalize hR : namedM t set = M
    unfold namedM at hR
    generalize namesM t = N at *
    generalize setG 5 none set = b at *
    simp [A15]
    try simp 
    repeat' (first
      | (refine CallX.pure (hv) (by simp) (by simp) ?_; try simp )
      | (refine CallK.intro (hv) (by simp) (by simp) ?_; try simp )
      | (refine CallG.intro (fun _ => hv) (by simp) (by simp) ?_; try simp )
      | ((with_reducible refine PreK.intro ?_ ?_); (next => (first | omega | (intros; first | omega | (refine ⟨by omega, ?_⟩; repeat (first | assumption | constructor)) | assumption))); intro _; try simp )
      | fail)
    refine CondK.ff ?_
    try simp 
    repeat (refine PreK.intro (by first | omega | (intros; first | omega | (refine ⟨by omega, ?_⟩; simp_all; done) | (simp_all; done) | (simp_all; omega))) fun _ => ?_; (try simp ))
    try simp 
    repeat' (first
      | (refine CallX.pure (hi) (by simp) (by simp) ?_; try simp )
      | (refine CallK.intro (hi) (by simp) (by simp) ?_; try simp )
      | (refine CallG.intro (fun _ => hi) (by simp) (by simp) ?_; try simp )
      | ((with_reducible refine PreK.intro ?_ ?_); (next => (first | omega | (intros; first | omega | (refine ⟨by omega, ?_⟩; repeat (first | assumption | constructor)) | assumption))); intro _; try simp )
      | fail)
    cases b with
    | false =>
      refine CondK.tt ?_
      try simp 
      repeat (refine PreK.intro (by first | omega | (intros; first | omega | (refine ⟨by omega, ?_⟩; simp_all; done) | (simp_all; done) | (simp_all; omega))) fun _ => ?_; (try simp ))
    | true =>
      refine CondK.ff ?_
      try simp 
      repeat (refine PreK.intro (by first | omega | (intros; first | omega | (refine ⟨by omega, ?_⟩; simp_all; done) | (simp_all; done) | (simp_all; omega))) fun _ => ?_; (try simp ))
      try simp 
      repeat' (first
        | (refine CallX.pure (hno) (by simp) (by simp) ?_; try simp )
        | (refine CallK.intro (hno) (by simp) (by simp) ?_; try simp )
        | (refine CallG.intro (fun _ => hno) (by simp) (by simp) ?_; try simp )
        | ((with_reducible refine PreK.intro ?_ ?_); (next => (first | omega | (intros; first | omega | (refine ⟨by omega, ?_⟩; repeat (first | assumption | constructor)) | assumption))); intro _; try simp )
        | fail)
      refine LoopK.by (ι := Nat × Nat × List Nm) (fun x => ⟨[(9, iv x.1), (8, namesV N), (7, .sl 7 x.2.1 0 x.2.2.length), (1, ints set), (0, tabV t)], [(7, some ⟨2, x.2.2.map pairV, x.2.1, false⟩)]⟩) (fun x => N.length - x.1)
        (fun x => x.1 ≤ N.length ∧ x.2.2.length ≤ x.1 ∧ x.2.2 ++ (N.drop x.1).filter (fun x => decide (standM t x.1 x.2.toNat = set)) = M) (0, 1, []) ⟨Nat.zero_le _, Nat.zero_le _, by simpa using hR⟩ (by simp) ?_
      intro ⟨i, ver, acc⟩ Q' ⟨hj, hal, hc⟩ hq he hr
      dsimp only at hj hal hc
      try simp 
      refine CondK.intro (fun h1 => ?_) (fun h1 => ?_)
      · simp at h1
        obtain ⟨hs1, hs2⟩ := hst _ (el_mem_of N i h1)
        rw [drop_cons N i h1, List.filter_cons] at hc
        generalize standM t (el N i).1 (el N i).2.toNat = st at *
        have hsm := same1_c st set (sbig (by omega))
        generalize decide (st = set) = d at hsm hc
        simp only [pairV] at hs1
        try simp [h1]
        repeat (refine PreK.intro (by first | omega | (intros; first | omega | (refine ⟨by omega, ?_⟩; simp_all; done) | (simp_all; done) | (simp_all; omega))) fun _ => ?_; (try simp [h1]))
        try simp [h1]
        repeat' (first
          | (refine CallX.pure (hs1) (by simp) (by simp) ?_; try simp [h1])
          | (refine CallK.intro (hs1) (by simp) (by simp) ?_; try simp [h1])
          | (refine CallG.intro (fun _ => hs1) (by simp) (by simp) ?_; try simp [h1])
          | ((with_reducible refine PreK.intro ?_ ?_); (next => (first | omega | (intros; first | omega | (refine ⟨by omega, ?_⟩; repeat (first | assumption | constructor)) | assumption))); intro _; try simp [h1])
          | fail)
        try simp 
        repeat' (first
          | (refine CallX.pure (hsm) (by simp) (by simp) ?_; try simp )
          | (refine CallK.intro (hsm) (by simp) (by simp) ?_; try simp )
          | (refine CallG.intro (fun _ => hsm) (by simp) (by simp) ?_; try simp )
          | ((with_reducible refine PreK.intro ?_ ?_); (next => (first | omega | (intros; first | omega | (refine ⟨by omega, ?_⟩; repeat (first | assumption | constructor)) | assumption))); intro _; try simp )
          | fail)
        cases d with
        | true =>
          simp only [if_true] at hc
          refine CondK.tt ?_
          try simp 
          try simp [h1]
          repeat (refine PreK.intro (by first | omega | (intros; first | omega | (refine ⟨by omega, ?_⟩; simp_all; done) | (simp_all; done) | (simp_all; omega))) fun _ => ?_; (try simp [h1]))
          exact hq (i + 1, ver + 1, acc ++ [el N i]) _ ⟨by dsimp only; omega, by simp; omega, by simpa using hc⟩ (by dsimp only; omega) (by simp)
        | false =>
          simp only [Bool.false_eq_true, if_false] at hc
          refine CondK.ff ?_
          try simp 
          repeat (refine PreK.intro (by first | omega | (intros; first | omega | (refine ⟨by omega, ?_⟩; simp_all; done) | (simp_all; done) | (simp_all; omega))) fun _ => ?_; (try simp ))
          exact hq (i + 1, ver, acc) _ ⟨by dsimp only; omega, by dsimp only; omega, hc⟩ (by dsimp only; omega) (by simp)
      · simp at h1
        rw [List.drop_eq_nil_of_le (by omega), List.filter_nil, List.append_nil] at hc
        subst hc
        try simp 
        apply he
        repeat (refine PreK.intro (by first | omega | (intros; first | omega | (refine ⟨by omega, ?_⟩; simp_all; done) | (simp_all; done) | (simp_all; omega))) fun _ => ?_; (try simp ))
  · rw [if_pos h0]
    generalize tabErr t = e at *
    simp [A15]
    try simp 
    repeat' (first
      | (refine CallX.pure (hv) (by simp) (by simp) ?_; try simp )
      | (refine CallK.intro (hv) (by simp) (by simp) ?_; try simp )
      | (refine CallG.intro (fun _ => hv) (by simp) (by simp) ?_; try simp )
      | ((with_reducible refine PreK.intro ?_ ?_); (next => (first | omega | (intros; first | omega | (refine ⟨by omega, ?_⟩; repeat (first | assumption | constructor)) | assumption))); intro _; try simp )
      | fail)
    refine CondK.intro (fun h1 => ?_) (fun h1 => ?_)
    · repeat (refine PreK.intro (by first | omega | (intros; first | omega | (refine ⟨by omega, ?_⟩; simp_all; done) | (simp_all; done) | (simp_all; omega))) fun _ => ?_; (try simp ))
    · simp at h1
      exact absurd h1 h0
theorem lawSoundNamed_c (t : List (List Int)) (set : List Int) (hb : t.length ≤ big) (hsb : set.length ≤ big) : CallP Tryz.prog 3 [tabV t, ints set] (bv true) := by
  refine C3 (by simp) ?_
  have hlg := Long_c t hb
  have hlo := large_c set
  simp [A3]
  try simp 
  repeat' (first
    | (refine CallX.pure (hlg) (by simp) (by simp) ?_; try simp )
    | (refine CallK.intro (hlg) (by simp) (by simp) ?_; try simp )
    | (refine CallG.intro (fun _ => hlg) (by simp) (by simp) ?_; try simp )
    | ((with_reducible refine PreK.intro ?_ ?_); (next => (first | omega | (intros; first | omega | (refine ⟨by omega, ?_⟩; repeat (first | assumption | constructor)) | assumption))); intro _; try simp )
    | fail)
  cases hL : longT t with
  | true =>
    try simp 
    repeat (refine PreK.intro (by first | omega | (intros; first | omega | (refine ⟨by omega, ?_⟩; simp_all; done) | (simp_all; done) | (simp_all; omega))) fun _ => ?_; (try simp ))
    refine CallG.intro (r := bv true) (fun hh => by cases hh) (by simp) (by simp) ?_
    try simp 
    try simp 
    repeat (refine PreK.intro (by first | omega | (intros; first | omega | (refine ⟨by omega, ?_⟩; simp_all; done) | (simp_all; done) | (simp_all; omega))) fun _ => ?_; (try simp ))
    refine CondK.tt ?_
    try simp 
    try simp 
    repeat' (first
      | (refine CallX.pure (known_c) (by simp) (by simp) ?_; try simp )
      | (refine CallK.intro (known_c) (by simp) (by simp) ?_; try simp )
      | (refine CallG.intro (fun _ => known_c) (by simp) (by simp) ?_; try simp )
      | ((with_reducible refine PreK.intro ?_ ?_); (next => (first | omega | (intros; first | omega | (refine ⟨by omega, ?_⟩; repeat (first | assumption | constructor)) | assumption))); intro _; try simp )
      | fail)
  | false =>
    try simp 
    repeat (refine PreK.intro (by first | omega | (intros; first | omega | (refine ⟨by omega, ?_⟩; simp_all; done) | (simp_all; done) | (simp_all; omega))) fun _ => ?_; (try simp ))
    try simp 
    repeat' (first
      | (refine CallX.pure (hlo) (by simp) (by simp) ?_; try simp )
      | (refine CallK.intro (hlo) (by simp) (by simp) ?_; try simp )
      | (refine CallG.intro (fun _ => hlo) (by simp) (by simp) ?_; try simp )
      | ((with_reducible refine PreK.intro ?_ ?_); (next => (first | omega | (intros; first | omega | (refine ⟨by omega, ?_⟩; repeat (first | assumption | constructor)) | assumption))); intro _; try simp )
      | fail)
    by_cases h100 : 100 < set.length
    · try simp [h100]
      repeat (refine PreK.intro (by first | omega | (intros; first | omega | (refine ⟨by omega, ?_⟩; simp_all; done) | (simp_all; done) | (simp_all; omega))) fun _ => ?_; (try simp [h100]))
      refine CondK.tt ?_
      try simp 
      try simp 
      repeat' (first
        | (refine CallX.pure (known_c) (by simp) (by simp) ?_; try simp )
        | (refine CallK.intro (known_c) (by simp) (by simp) ?_; try simp )
        | (refine CallG.intro (fun _ => known_c) (by simp) (by simp) ?_; try simp )
        | ((with_reducible refine PreK.intro ?_ ?_); (next => (first | omega | (intros; first | omega | (refine ⟨by omega, ?_⟩; repeat (first | assumption | constructor)) | assumption))); intro _; try simp )
        | fail)
    · try simp [h100]
      repeat (refine PreK.intro (by first | omega | (intros; first | omega | (refine ⟨by omega, ?_⟩; simp_all; done) | (simp_all; done) | (simp_all; omega))) fun _ => ?_; (try simp [h100]))
      refine CondK.ff ?_
      try simp 
      have hs := longT_small hL
      have c1 := Named_c t set hs (by omega)
      have c2 := rNamed_c t set hs (by omega)
      have hnl : (NamedE t set).1.length ≤ 1000 := by
        unfold NamedE
        by_cases h0 : tabErr t = 0
        · have := names_num (tabErr_zero.1 h0)
          have hml : (namedM t set).length ≤ (namesM t).length := List.length_filter_le _ _
          rw [if_neg (by simpa using h0)]
          split
          · simp
          · dsimp only; omega
        · rw [if_pos h0]; simp
      generalize NamedE t set = R at *
      obtain ⟨l, e2⟩ := R
      dsimp only at *
      have c7 := sameNames_c l l hnl
      try simp 
      repeat' (first
        | (refine CallX.pure (c1) (by simp) (by simp) ?_; try simp )
        | (refine CallK.intro (c1) (by simp) (by simp) ?_; try simp )
        | (refine CallG.intro (fun _ => c1) (by simp) (by simp) ?_; try simp )
        | (refine CallX.pure (c2) (by simp) (by simp) ?_; try simp )
        | (refine CallK.intro (c2) (by simp) (by simp) ?_; try simp )
        | (refine CallG.intro (fun _ => c2) (by simp) (by simp) ?_; try simp )
        | ((with_reducible refine PreK.intro ?_ ?_); (next => (first | omega | (intros; first | omega | (refine ⟨by omega, ?_⟩; repeat (first | assumption | constructor)) | assumption))); intro _; try simp )
        | fail)
      try simp 
      repeat' (first
        | (refine CallX.pure (c7) (by simp) (by simp) ?_; try simp )
        | (refine CallK.intro (c7) (by simp) (by simp) ?_; try simp )
        | (refine CallG.intro (fun _ => c7) (by simp) (by simp) ?_; try simp )
        | ((with_reducible refine PreK.intro ?_ ?_); (next => (first | omega | (intros; first | omega | (refine ⟨by omega, ?_⟩; repeat (first | assumption | constructor)) | assumption))); intro _; try simp )
        | fail)
      try simp 
      repeat' (first
        | (refine CallX.pure (known_c) (by simp) (by simp) ?_; try simp )
        | (refine CallK.intro (known_c) (by simp) (by simp) ?_; try simp )
        | (refine CallG.intro (fun _ => known_c) (by simp) (by simp) ?_; try simp )
        | ((with_reducible refine PreK.intro ?_ ?_); (next => (first | omega | (intros; first | omega | (refine ⟨by omega, ?_⟩; repeat (first | assumption | constructor)) | assumption))); intro _; try simp )
        | fail)
end Go.Proofs.YtgfgkfkplidncaaGreat
end

section
/- Contracts: marks, which tables name a family, the table that is made; the statements SoundMarks, SoundChecks, SoundMakes. -/
namespace Go.Proofs.YtgfgkfkplidncaaGreat
open Go.Abs Go
set_option maxRecDepth 20000
set_option maxHeartbeats 2000000
attribute [local irreducible] PreK CondK CallK CallG CallX LoopK
attribute [local simp] avsEq avEq akind teq vkind vEq

/-! ### marks -/
def MarksE (n : Int) (f : List (List Int)) (o : List Int) : Int × Int := if ordErr n f o ≠ 0 then (0, ordErr n f o) else if fitsM o f then ((marksN o f : Int), 0) else (0, 6)
theorem Marks_c (n : Int) (f : List (List Int)) (o : List Int) (h : Sm f) (ho : o.length ≤ 100) : CallP Tryz.prog 28 [iv n, tabV f, ints o] (.tup [iv (MarksE n f o).1, iv (MarksE n f o).2]) := by
  refine C28 (by simp) ?_
  have hv := ordered_c n f o h ho
  have hm := marks_c f o h ho
  have hml := marks_len o f
  unfold MarksE
  unfold marksP at hm
  generalize ordErr n f o = e at *
  generalize fitsM o f = b at *
  generalize marksN o f = k at *
  generalize marksM o f = M at *
  subst hml
  simp [A28]
  try simp 
  repeat' (first
    | (refine CallX.pure (hv) (by simp) (by simp) ?_; try simp )
    | (refine CallK.intro (hv) (by simp) (by simp) ?_; try simp )
    | (refine CallG.intro (fun _ => hv) (by simp) (by simp) ?_; try simp )
    | ((with_reducible refine PreK.intro ?_ ?_); (next => (first | omega | (intros; first | omega | (refine ⟨by omega, ?_⟩; repeat (first | assumption | constructor)) | assumption))); intro _; try simp )
    | fail)
  refine CondK.intro (fun h1 => ?_) (fun h1 => ?_)
  · simp at h1
    simp [h1]
  · simp at h1
    subst h1
    cases b with
    | true =>
      simp only [if_true] at hm
      try simp 
      repeat' (first
        | (refine CallX.pure (hm) (by simp) (by simp) ?_; try simp )
        | (refine CallK.intro (hm) (by simp) (by simp) ?_; try simp )
        | (refine CallG.intro (fun _ => hm) (by simp) (by simp) ?_; try simp )
        | ((with_reducible refine PreK.intro ?_ ?_); (next => (first | omega | (intros; first | omega | (refine ⟨by omega, ?_⟩; repeat (first | assumption | constructor)) | assumption))); intro _; try simp )
        | fail)
      try simp 
      repeat (refine PreK.intro (by first | omega | (intros; first | omega | (refine ⟨by omega, ?_⟩; simp_all; done) | (simp_all; done) | (simp_all; omega))) fun _ => ?_; (try simp ))
      refine CondK.ff ?_
      try simp 
      repeat (refine PreK.intro (by first | omega | (intros; first | omega | (refine ⟨by omega, ?_⟩; simp_all; done) | (simp_all; done) | (simp_all; omega))) fun _ => ?_; (try simp ))
    | false =>
      simp only [Bool.false_eq_true, if_false] at hm
      try simp 
      repeat' (first
        | (refine CallX.pure (hm) (by simp) (by simp) ?_; try simp )
        | (refine CallK.intro (hm) (by simp) (by simp) ?_; try simp )
        | (refine CallG.intro (fun _ => hm) (by simp) (by simp) ?_; try simp )
        | ((with_reducible refine PreK.intro ?_ ?_); (next => (first | omega | (intros; first | omega | (refine ⟨by omega, ?_⟩; repeat (first | assumption | constructor)) | assumption))); intro _; try simp )
        | fail)
      try simp 
      repeat (refine PreK.intro (by first | omega | (intros; first | omega | (refine ⟨by omega, ?_⟩; simp_all; done) | (simp_all; done) | (simp_all; omega))) fun _ => ?_; (try simp ))
      refine CondK.tt ?_
      try simp 
      repeat (refine PreK.intro (by first | omega | (intros; first | omega | (refine ⟨by omega, ?_⟩; simp_all; done) | (simp_all; done) | (simp_all; omega))) fun _ => ?_; (try simp ))
theorem rMarks_c (n : Int) (f : List (List Int)) (o : List Int) (h : Sm f) (ho : o.length ≤ 100) : CallP Tryz.prog 29 [iv n, tabV f, ints o] (.tup [iv (MarksE n f o).1, iv (MarksE n f o).2]) := by
  refine C29 (by simp) ?_
  have hv := rordered_c n f o h ho
  unfold MarksE
  by_cases h0 : ordErr n f o = 0
  · obtain ⟨k, rfl, hf, hok⟩ := ordErr_zero h0
    have hi := rfits_c f o k hf hok
    have hm := rmarks_c f o k hf hok
    rw [h0] at hv ⊢
    generalize fitsM o f = b at *
    generalize marksN o f = m at *
    simp [A29]
    try simp 
    repeat' (first
      | (refine CallX.pure (hv) (by simp) (by simp) ?_; try simp )
      | (refine CallK.intro (hv) (by simp) (by simp) ?_; try simp )
      | (refine CallG.intro (fun _ => hv) (by simp) (by simp) ?_; try simp )
      | ((with_reducible refine PreK.intro ?_ ?_); (next => (first | omega | (intros; first | omega | (refine ⟨by omega, ?_⟩; repeat (first | assumption | constructor)) | assumption))); intro _; try simp )
      | fail)
    refine CondK.ff ?_
    try simp 
    try simp 
    repeat' (first
      | (refine CallX.pure (hi) (by simp) (by simp) ?_; try simp )
      | (refine CallK.intro (hi) (by simp) (by simp) ?_; try simp )
      | (refine CallG.intro (fun _ => hi) (by simp) (by simp) ?_; try simp )
      | ((with_reducible refine PreK.intro ?_ ?_); (next => (first | omega | (intros; first | omega | (refine ⟨by omega, ?_⟩; repeat (first | assumption | constructor)) | assumption))); intro _; try simp )
      | fail)
    cases b with
    | true =>
      refine CondK.ff ?_
      try simp 
      try simp 
      repeat' (first
        | (refine CallX.pure (hm) (by simp) (by simp) ?_; try simp )
        | (refine CallK.intro (hm) (by simp) (by simp) ?_; try simp )
        | (refine CallG.intro (fun _ => hm) (by simp) (by simp) ?_; try simp )
        | ((with_reducible refine PreK.intro ?_ ?_); (next => (first | omega | (intros; first | omega | (refine ⟨by omega, ?_⟩; repeat (first | assumption | constructor)) | assumption))); intro _; try simp )
        | fail)
      repeat (refine PreK.intro (by first | omega | (intros; first | omega | (refine ⟨by omega, ?_⟩; simp_all; done) | (simp_all; done) | (simp_all; omega))) fun _ => ?_; (try simp ))
    | false =>
      refine CondK.tt ?_
      try simp 
      repeat (refine PreK.intro (by first | omega | (intros; first | omega | (refine ⟨by omega, ?_⟩; simp_all; done) | (simp_all; done) | (simp_all; omega))) fun _ => ?_; (try simp ))
  · rw [if_pos h0]
    generalize ordErr n f o = e at *
    simp [A29]
    try simp 
    repeat' (first
      | (refine CallX.pure (hv) (by simp) (by simp) ?_; try simp )
      | (refine CallK.intro (hv) (by simp) (by simp) ?_; try simp )
      | (refine CallG.intro (fun _ => hv) (by simp) (by simp) ?_; try simp )
      | ((with_reducible refine PreK.intro ?_ ?_); (next => (first | omega | (intros; first | omega | (refine ⟨by omega, ?_⟩; repeat (first | assumption | constructor)) | assumption))); intro _; try simp )
      | fail)
    refine CondK.intro (fun h1 => ?_) (fun h1 => ?_)
    · repeat (refine PreK.intro (by first | omega | (intros; first | omega | (refine ⟨by omega, ?_⟩; simp_all; done) | (simp_all; done) | (simp_all; omega))) fun _ => ?_; (try simp ))
    · simp at h1
      exact absurd h1 h0
theorem marks_law {n : Int} {f : List (List Int)} {o : List Int} (h : (MarksE n f o).2 = 0) : ∃ m : Int, FewE n f = (m, true, 0) ∧ m ≤ (MarksE n f o).1 := by
  unfold MarksE at h ⊢
  split at h
  · rename_i h0; exact absurd h h0
  · rename_i h0
    rw [if_neg h0]
    obtain ⟨k, rfl, hf, hok⟩ := ordErr_zero (by simpa using h0)
    split at h
    · rename_i h1
      rw [if_pos h1]
      obtain ⟨h2, h3⟩ := fewM_le hok h1
      have h4 := (few_le f (allO k) 0 (Int.le_refl 0)).1
      have h5 : famErr k f = 0 := famErr_of hf
      refine ⟨fewM f k, ?_, h3⟩
      unfold FewE
      rw [if_neg (by simpa using h5), Int.toNat_natCast]
      have : decide (0 < fewM f k) = true := by
        rw [decide_eq_true_eq]
        have h6 : 0 ≤ fewM f k := h4
        omega
      rw [this]
    · cases h
theorem lawSoundMarks_c (n : Int) (f : List (List Int)) (o : List Int) (hb : f.length ≤ big) (ho : o.length ≤ big) : CallP Tryz.prog 7 [iv n, tabV f, ints o] (bv true) := by
  refine C7 (by simp) ?_
  have hlg := Long_c f hb
  have hlo := large_c o
  simp [A7]
  try simp 
  repeat' (first
    | (refine CallX.pure (hlg) (by simp) (by simp) ?_; try simp )
    | (refine CallK.intro (hlg) (by simp) (by simp) ?_; try simp )
    | (refine CallG.intro (fun _ => hlg) (by simp) (by simp) ?_; try simp )
    | ((with_reducible refine PreK.intro ?_ ?_); (next => (first | omega | (intros; first | omega | (refine ⟨by omega, ?_⟩; repeat (first | assumption | constructor)) | assumption))); intro _; try simp )
    | fail)
  cases hL : longT f with
  | true =>
    try simp 
    repeat (refine PreK.intro (by first | omega | (intros; first | omega | (refine ⟨by omega, ?_⟩; simp_all; done) | (simp_all; done) | (simp_all; omega))) fun _ => ?_; (try simp ))
    refine CallG.intro (r := bv true) (fun hh => by cases hh) (by simp) (by simp) ?_
    try simp 
    try simp 
    repeat (refine PreK.intro (by first | omega | (intros; first | omega | (refine ⟨by omega, ?_⟩; simp_all; done) | (simp_all; done) | (simp_all; omega))) fun _ => ?_; (try simp ))
    refine CondK.tt ?_
    try simp 
    try simp 
    repeat' (first
      | (refine CallX.pure (known_c) (by simp) (by simp) ?_; try simp )
      | (refine CallK.intro (known_c) (by simp) (by simp) ?_; try simp )
      | (refine CallG.intro (fun _ => known_c) (by simp) (by simp) ?_; try simp )
      | ((with_reducible refine PreK.intro ?_ ?_); (next => (first | omega | (intros; first | omega | (refine ⟨by omega, ?_⟩; repeat (first | assumption | constructor)) | assumption))); intro _; try simp )
      | fail)
  | false =>
    try simp 
    repeat (refine PreK.intro (by first | omega | (intros; first | omega | (refine ⟨by omega, ?_⟩; simp_all; done) | (simp_all; done) | (simp_all; omega))) fun _ => ?_; (try simp ))
    try simp 
    repeat' (first
      | (refine CallX.pure (hlo) (by simp) (by simp) ?_; try simp )
      | (refine CallK.intro (hlo) (by simp) (by simp) ?_; try simp )
      | (refine CallG.intro (fun _ => hlo) (by simp) (by simp) ?_; try simp )
      | ((with_reducible refine PreK.intro ?_ ?_); (next => (first | omega | (intros; first | omega | (refine ⟨by omega, ?_⟩; repeat (first | assumption | constructor)) | assumption))); intro _; try simp )
      | fail)
    by_cases h100 : 100 < o.length
    · try simp [h100]
      repeat (refine PreK.intro (by first | omega | (intros; first | omega | (refine ⟨by omega, ?_⟩; simp_all; done) | (simp_all; done) | (simp_all; omega))) fun _ => ?_; (try simp [h100]))
      refine CondK.tt ?_
      try simp 
      try simp 
      repeat' (first
        | (refine CallX.pure (known_c) (by simp) (by simp) ?_; try simp )
        | (refine CallK.intro (known_c) (by simp) (by simp) ?_; try simp )
        | (refine CallG.intro (fun _ => known_c) (by simp) (by simp) ?_; try simp )
        | ((with_reducible refine PreK.intro ?_ ?_); (next => (first | omega | (intros; first | omega | (refine ⟨by omega, ?_⟩; repeat (first | assumption | constructor)) | assumption))); intro _; try simp )
        | fail)
    · try simp [h100]
      repeat (refine PreK.intro (by first | omega | (intros; first | omega | (refine ⟨by omega, ?_⟩; simp_all; done) | (simp_all; done) | (simp_all; omega))) fun _ => ?_; (try simp [h100]))
      refine CondK.ff ?_
      try simp 
      have hs := longT_small hL
      have c1 := Marks_c n f o hs (by omega)
      have c2 := rMarks_c n f o hs (by omega)
      have c3 := Fewest_c n f hs
      have hlaw := marks_law (n := n) (f := f) (o := o)
      generalize MarksE n f o = R at *
      obtain ⟨a, e⟩ := R
      dsimp only at *
      by_cases h0 : e = 0
      · subst h0
        obtain ⟨m, e1, e2⟩ := hlaw rfl
        rw [e1] at c3
        try simp 
        repeat' (first
          | (refine CallX.pure (c1) (by simp) (by simp) ?_; try simp )
          | (refine CallK.intro (c1) (by simp) (by simp) ?_; try simp )
          | (refine CallG.intro (fun _ => c1) (by simp) (by simp) ?_; try simp )
          | (refine CallX.pure (c2) (by simp) (by simp) ?_; try simp )
          | (refine CallK.intro (c2) (by simp) (by simp) ?_; try simp )
          | (refine CallG.intro (fun _ => c2) (by simp) (by simp) ?_; try simp )
          | ((with_reducible refine PreK.intro ?_ ?_); (next => (first | omega | (intros; first | omega | (refine ⟨by omega, ?_⟩; repeat (first | assumption | constructor)) | assumption))); intro _; try simp )
          | fail)
        refine CondK.ff ?_
        try simp 
        try simp 
        repeat (refine PreK.intro (by first | omega | (intros; first | omega | (refine ⟨by omega, ?_⟩; simp_all; done) | (simp_all; done) | (simp_all; omega))) fun _ => ?_; (try simp ))
        try simp [e2]
        repeat' (first
          | (refine CallX.pure (c3) (by simp) (by simp) ?_; try simp [e2])
          | (refine CallK.intro (c3) (by simp) (by simp) ?_; try simp [e2])
          | (refine CallG.intro (fun _ => c3) (by simp) (by simp) ?_; try simp [e2])
          | (refine CallX.pure (known_c) (by simp) (by simp) ?_; try simp [e2])
          | (refine CallK.intro (known_c) (by simp) (by simp) ?_; try simp [e2])
          | (refine CallG.intro (fun _ => known_c) (by simp) (by simp) ?_; try simp [e2])
          | ((with_reducible refine PreK.intro ?_ ?_); (next => (first | omega | (intros; first | omega | (refine ⟨by omega, ?_⟩; repeat (first | assumption | constructor)) | assumption))); intro _; try simp [e2])
          | fail)
      · generalize FewE n f = F at c3
        obtain ⟨m, is, g⟩ := F
        try simp 
        repeat' (first
          | (refine CallX.pure (c1) (by simp) (by simp) ?_; try simp )
          | (refine CallK.intro (c1) (by simp) (by simp) ?_; try simp )
          | (refine CallG.intro (fun _ => c1) (by simp) (by simp) ?_; try simp )
          | (refine CallX.pure (c2) (by simp) (by simp) ?_; try simp )
          | (refine CallK.intro (c2) (by simp) (by simp) ?_; try simp )
          | (refine CallG.intro (fun _ => c2) (by simp) (by simp) ?_; try simp )
          | ((with_reducible refine PreK.intro ?_ ?_); (next => (first | omega | (intros; first | omega | (refine ⟨by omega, ?_⟩; repeat (first | assumption | constructor)) | assumption))); intro _; try simp )
          | fail)
        refine CondK.ff ?_
        try simp 
        try simp 
        repeat (refine PreK.intro (by first | omega | (intros; first | omega | (refine ⟨by omega, ?_⟩; simp_all; done) | (simp_all; done) | (simp_all; omega))) fun _ => ?_; (try simp ))
        try simp [h0]
        repeat' (first
          | (refine CallX.pure (c3) (by simp) (by simp) ?_; try simp [h0])
          | (refine CallK.intro (c3) (by simp) (by simp) ?_; try simp [h0])
          | (refine CallG.intro (fun _ => c3) (by simp) (by simp) ?_; try simp [h0])
          | (refine CallX.pure (known_c) (by simp) (by simp) ?_; try simp [h0])
          | (refine CallK.intro (known_c) (by simp) (by simp) ?_; try simp [h0])
          | (refine CallG.intro (fun _ => known_c) (by simp) (by simp) ?_; try simp [h0])
          | ((with_reducible refine PreK.intro ?_ ?_); (next => (first | omega | (intros; first | omega | (refine ⟨by omega, ?_⟩; repeat (first | assumption | constructor)) | assumption))); intro _; try simp [h0])
          | fail)

/-! ### which tables name a family -/
def idxW (p : List Int → Bool) : Nat → List (List Int) → Int
  | _, [] => -1
  | k, x :: r => if p x then k else idxW p (k + 1) r
theorem idxW_any (p : List Int → Bool) : ∀ (l : List (List Int)) (k : Nat), decide (0 ≤ idxW p k l) = l.any p
  | [], k => by simp [idxW]
  | x :: r, k => by
    by_cases h : p x = true
    · simp [idxW, h]
    · simp [idxW, h, idxW_any p r (k + 1)]
theorem indexFuncW_c (l : List (List Int)) (hl : l.length ≤ big) (f : FuncId) (cap : List AV) (p : List Int → Bool) (hp : ∀ x ∈ l, CallP Tryz.prog f (ints x :: cap) (bv (p x))) (h1 : ∀ m, snapL m cap = cap) (h2 : AV.refsL cap = []) (h3 : ∀ m, snapOKL m cap) :
    CallP Tryz.prog 95 [tabV l, .fn f [] cap] (iv (idxW p 0 l)) := by
  refine C95 (by simp) ?_
  generalize hR : idxW p 0 l = R
  simp [A95]
  refine LoopK.by (fun i : Nat => ⟨[(8, iv i), (7, iv l.length), (0, tabV l), (1, .fn f [] cap)], []⟩) (fun i => l.length - i) (fun i => i ≤ l.length ∧ idxW p i (l.drop i) = R) 0 (by simpa using hR) (by simp [h2]) ?_
  intro i Q' ⟨hi, hc⟩ hq he hr
  try simp 
  refine CondK.intro (fun h => ?_) (fun h => ?_)
  · simp at h
    have hpx := hp _ (el_mem_of l i h)
    rw [drop_cons l i h, idxW] at hc
    generalize p (el l i) = b at hpx hc
    try simp [h]
    repeat (refine PreK.intro (by first | omega | (intros; first | omega | (refine ⟨by omega, ?_⟩; simp_all; done) | (simp_all; done) | (simp_all; omega))) fun _ => ?_; (try simp [h]))
    refine CallX.pure (by simpa [h1] using hpx) (by simp [h3]) (by simp) ?_
    try simp 
    cases b with
    | true =>
      simp only [if_true] at hc
      refine CondK.tt ?_
      try simp 
      repeat (refine PreK.intro (by first | omega | (intros; first | omega | (refine ⟨by omega, ?_⟩; simp_all; done) | (simp_all; done) | (simp_all; omega))) fun _ => ?_; (try simp ))
      apply hr
      simp [hc]
    | false =>
      simp only [Bool.false_eq_true, if_false] at hc
      refine CondK.ff ?_
      try simp 
      refine PreK.intro (by simp only [big] at hl; omega) fun _ => ?_
      try simp 
      exact hq (i + 1) _ ⟨by omega, hc⟩ (by omega) (by simp [h2])
  · simp at h
    rw [List.drop_eq_nil_of_le (by omega), idxW] at hc
    try simp 
    apply he
    simp [hc]
theorem containsFuncW_c (l : List (List Int)) (hl : l.length ≤ big) (f : FuncId) (cap : List AV) (p : List Int → Bool) (hp : ∀ x ∈ l, CallP Tryz.prog f (ints x :: cap) (bv (p x))) (h1 : ∀ m, snapL m cap = cap) (h2 : AV.refsL cap = []) (h3 : ∀ m, snapOKL m cap) :
    CallP Tryz.prog 57 [tabV l, .fn f [] cap] (bv (l.any p)) := by
  refine C57 (by simp) ?_
  have hx := indexFuncW_c l hl f cap p hp h1 h2 h3
  rw [← idxW_any p l 0]
  generalize idxW p 0 l = q at *
  simp [A57]
  refine CallX.pure (by simpa [h1] using hx) (by simp [h3]) (by simp) ?_
  repeat (refine PreK.intro (by first | omega | (intros; first | omega | (refine ⟨by omega, ?_⟩; simp_all; done) | (simp_all; done) | (simp_all; omega))) fun _ => ?_; (try simp ))
theorem check1_c (own set : List Int) (h : own.length ≤ big) : CallP Tryz.prog 58 [ints own, .ipt (ints set) 0] (bv (decide (own = set))) := by
  refine C58 (by simp) ?_
  simp [A58]
  try simp 
  repeat' (first
    | (refine CallX.pure (equal_c own set h) (by simp) (by simp) ?_; try simp )
    | (refine CallK.intro (equal_c own set h) (by simp) (by simp) ?_; try simp )
    | (refine CallG.intro (fun _ => equal_c own set h) (by simp) (by simp) ?_; try simp )
    | ((with_reducible refine PreK.intro ?_ ?_); (next => (first | omega | (intros; first | omega | (refine ⟨by omega, ?_⟩; repeat (first | assumption | constructor)) | assumption))); intro _; try simp )
    | fail)
theorem CheckTable_c (n : Int) (f : List (List Int)) (t : Tab) (hf : Sm f) (ht : Sm t) : CallP Tryz.prog 17 [iv n, tabV f, tabV t] (iv (checkT n f t)) := by
  refine C17 (by simp) ?_
  have hv := ValidateFamily_c n f hf
  have hw := Validate_c t ht
  have hfn := hf.num
  unfold checkT
  by_cases h0 : famErr n f = 0
  · rw [if_neg (by simpa using h0)]
    rw [h0] at hv
    by_cases h1 : tabErr t = 0
    · rw [if_neg (by simpa using h1)]
      rw [h1] at hw
      have hok := tabErr_zero.1 h1
      have hlo := lineOf_c t hok
      have hl := hok.len
      have hio := isOrder_c t.flatten n (by omega)
      have hcl := classes_c t hok
      have hcn : (classesM t).length ≤ 36 := by rw [classes_len hok]; exact names_num hok
      have hcw : ∀ x ∈ classesM t, x.length ≤ 6 := fun x hx => (class_up hok hx).2.2
      have hcf : ∀ set : List Int, CallP Tryz.prog 57 [tabV (classesM t), .fn 58 [] [.ipt (ints set) 0]] (bv ((classesM t).contains set)) := by
        intro set
        have := containsFuncW_c (classesM t) (by simp only [big]; omega) 58 [.ipt (ints set) 0] (fun x => decide (x = set)) (fun x hx => check1_c x set (by have := hcw x hx; simp only [big]; omega)) (by simp) (by simp) (by simp)
        have e : ((classesM t).any fun x => decide (x = set)) = (classesM t).contains set := by
          rw [Bool.eq_iff_iff, List.any_eq_true, List.contains_iff_mem]
          constructor
          · rintro ⟨x, hx, e⟩; rw [decide_eq_true_eq] at e; rw [← e]; exact hx
          · intro h; exact ⟨set, h, by simp⟩
        rwa [e] at this
      unfold lineV at hlo
      generalize hR : (if f.all (fun s => (classesM t).contains s) then (0 : Int) else 7) = R
      generalize classesM t = C at *
      generalize t.flatten = L at *
      generalize rowsF 0 t = RR at *
      generalize isOrdB L n = b at *
      simp [A17]
      try simp 
      repeat' (first
        | (refine CallX.pure (hv) (by simp) (by simp) ?_; try simp )
        | (refine CallK.intro (hv) (by simp) (by simp) ?_; try simp )
        | (refine CallG.intro (fun _ => hv) (by simp) (by simp) ?_; try simp )
        | ((with_reducible refine PreK.intro ?_ ?_); (next => (first | omega | (intros; first | omega | (refine ⟨by omega, ?_⟩; repeat (first | assumption | constructor)) | assumption))); intro _; try simp )
        | fail)
      refine CondK.ff ?_
      try simp 
      repeat (refine PreK.intro (by first | omega | (intros; first | omega | (refine ⟨by omega, ?_⟩; simp_all; done) | (simp_all; done) | (simp_all; omega))) fun _ => ?_; (try simp ))
      try simp 
      repeat' (first
        | (refine CallX.pure (hw) (by simp) (by simp) ?_; try simp )
        | (refine CallK.intro (hw) (by simp) (by simp) ?_; try simp )
        | (refine CallG.intro (fun _ => hw) (by simp) (by simp) ?_; try simp )
        | ((with_reducible refine PreK.intro ?_ ?_); (next => (first | omega | (intros; first | omega | (refine ⟨by omega, ?_⟩; repeat (first | assumption | constructor)) | assumption))); intro _; try simp )
        | fail)
      refine CondK.ff ?_
      try simp 
      repeat (refine PreK.intro (by first | omega | (intros; first | omega | (refine ⟨by omega, ?_⟩; simp_all; done) | (simp_all; done) | (simp_all; omega))) fun _ => ?_; (try simp ))
      try simp 
      repeat' (first
        | (refine CallX.pure (hlo) (by simp) (by simp) ?_; try simp )
        | (refine CallK.intro (hlo) (by simp) (by simp) ?_; try simp )
        | (refine CallG.intro (fun _ => hlo) (by simp) (by simp) ?_; try simp )
        | ((with_reducible refine PreK.intro ?_ ?_); (next => (first | omega | (intros; first | omega | (refine ⟨by omega, ?_⟩; repeat (first | assumption | constructor)) | assumption))); intro _; try simp )
        | fail)
      repeat (refine PreK.intro (by first | omega | (intros; first | omega | (refine ⟨by omega, ?_⟩; simp_all; done) | (simp_all; done) | (simp_all; omega))) fun _ => ?_; (try simp ))
      try simp 
      repeat' (first
        | (refine CallX.pure (hio) (by simp) (by simp) ?_; try simp )
        | (refine CallK.intro (hio) (by simp) (by simp) ?_; try simp )
        | (refine CallG.intro (fun _ => hio) (by simp) (by simp) ?_; try simp )
        | ((with_reducible refine PreK.intro ?_ ?_); (next => (first | omega | (intros; first | omega | (refine ⟨by omega, ?_⟩; repeat (first | assumption | constructor)) | assumption))); intro _; try simp )
        | fail)
      cases b with
      | false =>
        refine CondK.tt ?_
        try simp 
        repeat (refine PreK.intro (by first | omega | (intros; first | omega | (refine ⟨by omega, ?_⟩; simp_all; done) | (simp_all; done) | (simp_all; omega))) fun _ => ?_; (try simp ))
      | true =>
        refine CondK.ff ?_
        try simp 
        repeat (refine PreK.intro (by first | omega | (intros; first | omega | (refine ⟨by omega, ?_⟩; simp_all; done) | (simp_all; done) | (simp_all; omega))) fun _ => ?_; (try simp ))
        try simp 
        repeat' (first
          | (refine CallX.pure (hcl) (by simp) (by simp) ?_; try simp )
          | (refine CallK.intro (hcl) (by simp) (by simp) ?_; try simp )
          | (refine CallG.intro (fun _ => hcl) (by simp) (by simp) ?_; try simp )
          | ((with_reducible refine PreK.intro ?_ ?_); (next => (first | omega | (intros; first | omega | (refine ⟨by omega, ?_⟩; repeat (first | assumption | constructor)) | assumption))); intro _; try simp )
          | fail)
        refine LoopK.by (fun i : Nat => ⟨[(33, iv i), (32, iv f.length), (31, tabV f), (9, tabV C)], []⟩) (fun i => f.length - i) (fun i => i ≤ f.length ∧ (if (f.drop i).all (fun s => C.contains s) then (0 : Int) else 7) = R) 0 (by simpa using hR) (by simp) ?_
        intro i Q' ⟨hi, hc⟩ hq he hr
        try simp 
        refine CondK.intro (fun h2 => ?_) (fun h2 => ?_)
        · simp at h2
          have hcf1 := hcf (el f i)
          rw [drop_cons f i h2, List.all_cons] at hc
          generalize C.contains (el f i) = c at hcf1 hc
          try simp [h2]
          repeat (refine PreK.intro (by first | omega | (intros; first | omega | (refine ⟨by omega, ?_⟩; simp_all; done) | (simp_all; done) | (simp_all; omega))) fun _ => ?_; (try simp [h2]))
          refine CallX.frz 11 (b := ⟨1, [ints (el f i)], 1, true⟩) (by simp) (by simp) ?_
          try simp 
          refine CallX.pure (by simpa using hcf1) (by simp) (by simp) ?_
          try simp 
          cases c with
          | false =>
            simp only [Bool.false_and, Bool.false_eq_true, if_false] at hc
            refine CondK.tt ?_
            try simp 
            apply hr
            simp [hc]
          | true =>
            simp only [Bool.true_and] at hc
            refine CondK.ff ?_
            try simp 
            repeat (refine PreK.intro (by first | omega | (intros; first | omega | (refine ⟨by omega, ?_⟩; simp_all; done) | (simp_all; done) | (simp_all; omega))) fun _ => ?_; (try simp ))
            exact hq (i + 1) _ ⟨by omega, hc⟩ (by omega) (by simp)
        · simp at h2
          rw [List.drop_eq_nil_of_le (by omega)] at hc
          simp only [List.all_nil, if_true] at hc
          try simp 
          apply he
          simp [hc]
    · rw [if_pos h1]
      generalize tabErr t = e at *
      simp [A17]
      try simp 
      repeat' (first
        | (refine CallX.pure (hv) (by simp) (by simp) ?_; try simp )
        | (refine CallK.intro (hv) (by simp) (by simp) ?_; try simp )
        | (refine CallG.intro (fun _ => hv) (by simp) (by simp) ?_; try simp )
        | ((with_reducible refine PreK.intro ?_ ?_); (next => (first | omega | (intros; first | omega | (refine ⟨by omega, ?_⟩; repeat (first | assumption | constructor)) | assumption))); intro _; try simp )
        | fail)
      refine CondK.ff ?_
      try simp 
      repeat (refine PreK.intro (by first | omega | (intros; first | omega | (refine ⟨by omega, ?_⟩; simp_all; done) | (simp_all; done) | (simp_all; omega))) fun _ => ?_; (try simp ))
      try simp 
      repeat' (first
        | (refine CallX.pure (hw) (by simp) (by simp) ?_; try simp )
        | (refine CallK.intro (hw) (by simp) (by simp) ?_; try simp )
        | (refine CallG.intro (fun _ => hw) (by simp) (by simp) ?_; try simp )
        | ((with_reducible refine PreK.intro ?_ ?_); (next => (first | omega | (intros; first | omega | (refine ⟨by omega, ?_⟩; repeat (first | assumption | constructor)) | assumption))); intro _; try simp )
        | fail)
      refine CondK.intro (fun h2 => ?_) (fun h2 => ?_)
      · repeat (refine PreK.intro (by first | omega | (intros; first | omega | (refine ⟨by omega, ?_⟩; simp_all; done) | (simp_all; done) | (simp_all; omega))) fun _ => ?_; (try simp ))
      · simp at h2
        exact absurd h2 h1
  · rw [if_pos h0]
    generalize famErr n f = e at *
    simp [A17]
    try simp 
    repeat' (first
      | (refine CallX.pure (hv) (by simp) (by simp) ?_; try simp )
      | (refine CallK.intro (hv) (by simp) (by simp) ?_; try simp )
      | (refine CallG.intro (fun _ => hv) (by simp) (by simp) ?_; try simp )
      | ((with_reducible refine PreK.intro ?_ ?_); (next => (first | omega | (intros; first | omega | (refine ⟨by omega, ?_⟩; repeat (first | assumption | constructor)) | assumption))); intro _; try simp )
      | fail)
    refine CondK.intro (fun h1 => ?_) (fun h1 => ?_)
    · repeat (refine PreK.intro (by first | omega | (intros; first | omega | (refine ⟨by omega, ?_⟩; simp_all; done) | (simp_all; done) | (simp_all; omega))) fun _ => ?_; (try simp ))
    · simp at h1
      exact absurd h1 h0
theorem named_nil {t : Tab} (set : List Int) : (namedM t set).length = 0 ↔ (classesM t).contains set = false := by
  have h1 : set ∈ classesM t ↔ ∃ x ∈ namesM t, standM t x.1 x.2.toNat = set := by
    unfold classesM setsM
    rw [(uniq_sorted _).2, List.mem_map]
  have h2 : (classesM t).contains set = true ↔ set ∈ classesM t := List.contains_iff_mem
  have h3 : (namedM t set).length = 0 ↔ ∀ x ∈ namesM t, standM t x.1 x.2.toNat ≠ set := by
    unfold namedM
    rw [List.length_eq_zero_iff, List.filter_eq_nil_iff]
    simp
  rw [h3, ← Bool.not_eq_true, h2, h1]
  simp
theorem rCheckTable_c (n : Int) (f : List (List Int)) (t : Tab) (hf : Sm f) (ht : Sm t) : CallP Tryz.prog 18 [iv n, tabV f, tabV t] (iv (checkT n f t)) := by
  refine C18 (by simp) ?_
  have hv := rValidateFamily_c n f hf
  have hw := rValidate_c t ht
  have hfn := hf.num
  unfold checkT
  by_cases h0 : famErr n f = 0
  · rw [if_neg (by simpa using h0)]
    rw [h0] at hv
    obtain ⟨k, hk, hfo⟩ := famErr_zero h0
    by_cases h1 : tabErr t = 0
    · rw [if_neg (by simpa using h1)]
      rw [h1] at hw
      have hok := tabErr_zero.1 h1
      have hl := hok.len
      have hso := rsounds_c t ht
      have hio := risOrder_c t.flatten n (by omega)
      have hnm : ∀ s ∈ f, CallP Tryz.prog 15 [tabV t, ints s] (.tup [namesV (namedM t s), iv 0]) ∧ (namedM t s).length ≤ 36 := by
        intro s hs
        have h2 := rNamed_c t s ht (by have := (fam_sm hfo).row s hs; omega)
        have h3 : setG 5 none s = true := setG_of (fun x hx => by have := hfo.val s hs x hx; have := hfo.hi; omega) (hfo.up s hs) fun y hy => by cases hy
        unfold NamedE at h2
        rw [if_neg (by simpa using h1), h3, if_neg (by simp)] at h2
        refine ⟨h2, ?_⟩
        have := names_num hok
        have hml : (namedM t s).length ≤ (namesM t).length := List.length_filter_le _ _
        omega
      have hnil := fun s => named_nil (t := t) s
      generalize hR : (if f.all (fun s => (classesM t).contains s) then (0 : Int) else 7) = R
      generalize classesM t = C at *
      have hmf : (List.map (List.map iv) t).flatten = List.map iv t.flatten := by rw [List.map_flatten]
      generalize t.flatten = L at *
      generalize isOrdB L n = b at *
      simp [A18]
      try simp 
      repeat' (first
        | (refine CallX.pure (hv) (by simp) (by simp) ?_; try simp )
        | (refine CallK.intro (hv) (by simp) (by simp) ?_; try simp )
        | (refine CallG.intro (fun _ => hv) (by simp) (by simp) ?_; try simp )
        | ((with_reducible refine PreK.intro ?_ ?_); (next => (first | omega | (intros; first | omega | (refine ⟨by omega, ?_⟩; repeat (first | assumption | constructor)) | assumption))); intro _; try simp )
        | fail)
      refine CondK.ff ?_
      try simp 
      repeat (refine PreK.intro (by first | omega | (intros; first | omega | (refine ⟨by omega, ?_⟩; simp_all; done) | (simp_all; done) | (simp_all; omega))) fun _ => ?_; (try simp ))
      try simp 
      repeat' (first
        | (refine CallX.pure (hw) (by simp) (by simp) ?_; try simp )
        | (refine CallK.intro (hw) (by simp) (by simp) ?_; try simp )
        | (refine CallG.intro (fun _ => hw) (by simp) (by simp) ?_; try simp )
        | ((with_reducible refine PreK.intro ?_ ?_); (next => (first | omega | (intros; first | omega | (refine ⟨by omega, ?_⟩; repeat (first | assumption | constructor)) | assumption))); intro _; try simp )
        | fail)
      refine CondK.ff ?_
      try simp 
      repeat (refine PreK.intro (by first | omega | (intros; first | omega | (refine ⟨by omega, ?_⟩; simp_all; done) | (simp_all; done) | (simp_all; omega))) fun _ => ?_; (try simp ))
      try simp 
      repeat' (first
        | (refine CallX.pure (hso) (by simp) (by simp) ?_; try simp )
        | (refine CallK.intro (hso) (by simp) (by simp) ?_; try simp )
        | (refine CallG.intro (fun _ => hso) (by simp) (by simp) ?_; try simp )
        | ((with_reducible refine PreK.intro ?_ ?_); (next => (first | omega | (intros; first | omega | (refine ⟨by omega, ?_⟩; repeat (first | assumption | constructor)) | assumption))); intro _; try simp )
        | fail)
      try simp 
      repeat' (first
        | (refine CallX.pure (hio) (by simp) (by simp) ?_; try simp )
        | (refine CallK.intro (hio) (by simp) (by simp) ?_; try simp )
        | (refine CallG.intro (fun _ => hio) (by simp) (by simp) ?_; try simp )
        | ((with_reducible refine PreK.intro ?_ ?_); (next => (first | omega | (intros; first | omega | (refine ⟨by omega, ?_⟩; repeat (first | assumption | constructor)) | assumption))); intro _; try simp )
        | fail)
      cases b with
      | false =>
        refine CondK.tt ?_
        try simp 
        repeat (refine PreK.intro (by first | omega | (intros; first | omega | (refine ⟨by omega, ?_⟩; simp_all; done) | (simp_all; done) | (simp_all; omega))) fun _ => ?_; (try simp ))
      | true =>
        refine CondK.ff ?_
        try simp 
        repeat (refine PreK.intro (by first | omega | (intros; first | omega | (refine ⟨by omega, ?_⟩; simp_all; done) | (simp_all; done) | (simp_all; omega))) fun _ => ?_; (try simp ))
        refine LoopK.by (fun i : Nat => ⟨[(9, iv i), (1, tabV f), (2, tabV t)], []⟩) (fun i => f.length - i) (fun i => i ≤ f.length ∧ (if (f.drop i).all (fun s => C.contains s) then (0 : Int) else 7) = R) 0 (by simpa using hR) (by simp) ?_
        intro i Q' ⟨hi, hc⟩ hq he hr
        try simp 
        refine CondK.intro (fun h2 => ?_) (fun h2 => ?_)
        · simp at h2
          obtain ⟨hn1, hn2⟩ := hnm _ (el_mem_of f i h2)
          have hn3 := hnil (el f i)
          rw [drop_cons f i h2, List.all_cons] at hc
          generalize C.contains (el f i) = c at hn3 hc
          generalize namedM t (el f i) = M at *
          try simp [h2]
          repeat (refine PreK.intro (by first | omega | (intros; first | omega | (refine ⟨by omega, ?_⟩; simp_all; done) | (simp_all; done) | (simp_all; omega))) fun _ => ?_; (try simp [h2]))
          try simp [h2]
          repeat' (first
            | (refine CallX.pure (hn1) (by simp) (by simp) ?_; try simp [h2])
            | (refine CallK.intro (hn1) (by simp) (by simp) ?_; try simp [h2])
            | (refine CallG.intro (fun _ => hn1) (by simp) (by simp) ?_; try simp [h2])
            | ((with_reducible refine PreK.intro ?_ ?_); (next => (first | omega | (intros; first | omega | (refine ⟨by omega, ?_⟩; repeat (first | assumption | constructor)) | assumption))); intro _; try simp [h2])
            | fail)
          cases c with
          | false =>
            have h4 : M = [] := List.eq_nil_of_length_eq_zero (hn3.2 rfl)
            simp only [Bool.false_and, Bool.false_eq_true, if_false] at hc
            try simp [h4]
            repeat (refine PreK.intro (by first | omega | (intros; first | omega | (refine ⟨by omega, ?_⟩; simp_all; done) | (simp_all; done) | (simp_all; omega))) fun _ => ?_; (try simp [h4]))
            refine CondK.tt ?_
            try simp 
            apply hr
            simp [hc]
          | true =>
            have h4 : ¬ M = [] := fun h => by have := hn3.1 (by rw [h]; rfl); cases this
            simp only [Bool.true_and] at hc
            try simp [h4]
            repeat (refine PreK.intro (by first | omega | (intros; first | omega | (refine ⟨by omega, ?_⟩; simp_all; done) | (simp_all; done) | (simp_all; omega))) fun _ => ?_; (try simp [h4]))
            refine CondK.ff ?_
            try simp 
            repeat (refine PreK.intro (by first | omega | (intros; first | omega | (refine ⟨by omega, ?_⟩; simp_all; done) | (simp_all; done) | (simp_all; omega))) fun _ => ?_; (try simp ))
            exact hq (i + 1) _ ⟨by omega, hc⟩ (by omega) (by simp)
        · simp at h2
          rw [List.drop_eq_nil_of_le (by omega)] at hc
          simp only [List.all_nil, if_true] at hc
          try simp 
          apply he
          simp [hc]
    · rw [if_pos h1]
      generalize tabErr t = e at *
      simp [A18]
      try simp 
      repeat' (first
        | (refine CallX.pure (hv) (by simp) (by simp) ?_; try simp )
        | (refine CallK.intro (hv) (by simp) (by simp) ?_; try simp )
        | (refine CallG.intro (fun _ => hv) (by simp) (by simp) ?_; try simp )
        | ((with_reducible refine PreK.intro ?_ ?_); (next => (first | omega | (intros; first | omega | (refine ⟨by omega, ?_⟩; repeat (first | assumption | constructor)) | assumption))); intro _; try simp )
        | fail)
      refine CondK.ff ?_
      try simp 
      repeat (refine PreK.intro (by first | omega | (intros; first | omega | (refine ⟨by omega, ?_⟩; simp_all; done) | (simp_all; done) | (simp_all; omega))) fun _ => ?_; (try simp ))
      try simp 
      repeat' (first
        | (refine CallX.pure (hw) (by simp) (by simp) ?_; try simp )
        | (refine CallK.intro (hw) (by simp) (by simp) ?_; try simp )
        | (refine CallG.intro (fun _ => hw) (by simp) (by simp) ?_; try simp )
        | ((with_reducible refine PreK.intro ?_ ?_); (next => (first | omega | (intros; first | omega | (refine ⟨by omega, ?_⟩; repeat (first | assumption | constructor)) | assumption))); intro _; try simp )
        | fail)
      refine CondK.intro (fun h2 => ?_) (fun h2 => ?_)
      · repeat (refine PreK.intro (by first | omega | (intros; first | omega | (refine ⟨by omega, ?_⟩; simp_all; done) | (simp_all; done) | (simp_all; omega))) fun _ => ?_; (try simp ))
      · simp at h2
        exact absurd h2 h1
  · rw [if_pos h0]
    generalize famErr n f = e at *
    simp [A18]
    try simp 
    repeat' (first
      | (refine CallX.pure (hv) (by simp) (by simp) ?_; try simp )
      | (refine CallK.intro (hv) (by simp) (by simp) ?_; try simp )
      | (refine CallG.intro (fun _ => hv) (by simp) (by simp) ?_; try simp )
      | ((with_reducible refine PreK.intro ?_ ?_); (next => (first | omega | (intros; first | omega | (refine ⟨by omega, ?_⟩; repeat (first | assumption | constructor)) | assumption))); intro _; try simp )
      | fail)
    refine CondK.intro (fun h1 => ?_) (fun h1 => ?_)
    · repeat (refine PreK.intro (by first | omega | (intros; first | omega | (refine ⟨by omega, ?_⟩; simp_all; done) | (simp_all; done) | (simp_all; omega))) fun _ => ?_; (try simp ))
    · simp at h1
      exact absurd h1 h0
theorem lawSoundChecks_c (n : Int) (f t : List (List Int)) (hb : f.length ≤ big) (hbt : t.length ≤ big) : CallP Tryz.prog 4 [iv n, tabV f, tabV t] (bv true) := by
  refine C4 (by simp) ?_
  have hlg := Long_c f hb
  have hlt := Long_c t hbt
  simp [A4]
  try simp 
  repeat' (first
    | (refine CallX.pure (hlg) (by simp) (by simp) ?_; try simp )
    | (refine CallK.intro (hlg) (by simp) (by simp) ?_; try simp )
    | (refine CallG.intro (fun _ => hlg) (by simp) (by simp) ?_; try simp )
    | ((with_reducible refine PreK.intro ?_ ?_); (next => (first | omega | (intros; first | omega | (refine ⟨by omega, ?_⟩; repeat (first | assumption | constructor)) | assumption))); intro _; try simp )
    | fail)
  cases hL : longT f with
  | true =>
    try simp 
    repeat (refine PreK.intro (by first | omega | (intros; first | omega | (refine ⟨by omega, ?_⟩; simp_all; done) | (simp_all; done) | (simp_all; omega))) fun _ => ?_; (try simp ))
    refine CallG.intro (r := bv true) (fun hh => by cases hh) (by simp) (by simp) ?_
    try simp 
    try simp 
    repeat (refine PreK.intro (by first | omega | (intros; first | omega | (refine ⟨by omega, ?_⟩; simp_all; done) | (simp_all; done) | (simp_all; omega))) fun _ => ?_; (try simp ))
    refine CondK.tt ?_
    try simp 
    try simp 
    repeat' (first
      | (refine CallX.pure (known_c) (by simp) (by simp) ?_; try simp )
      | (refine CallK.intro (known_c) (by simp) (by simp) ?_; try simp )
      | (refine CallG.intro (fun _ => known_c) (by simp) (by simp) ?_; try simp )
      | ((with_reducible refine PreK.intro ?_ ?_); (next => (first | omega | (intros; first | omega | (refine ⟨by omega, ?_⟩; repeat (first | assumption | constructor)) | assumption))); intro _; try simp )
      | fail)
  | false =>
    try simp 
    repeat (refine PreK.intro (by first | omega | (intros; first | omega | (refine ⟨by omega, ?_⟩; simp_all; done) | (simp_all; done) | (simp_all; omega))) fun _ => ?_; (try simp ))
    try simp 
    repeat' (first
      | (refine CallX.pure (hlt) (by simp) (by simp) ?_; try simp )
      | (refine CallK.intro (hlt) (by simp) (by simp) ?_; try simp )
      | (refine CallG.intro (fun _ => hlt) (by simp) (by simp) ?_; try simp )
      | ((with_reducible refine PreK.intro ?_ ?_); (next => (first | omega | (intros; first | omega | (refine ⟨by omega, ?_⟩; repeat (first | assumption | constructor)) | assumption))); intro _; try simp )
      | fail)
    cases hM : longT t with
    | true =>
      try simp 
      repeat (refine PreK.intro (by first | omega | (intros; first | omega | (refine ⟨by omega, ?_⟩; simp_all; done) | (simp_all; done) | (simp_all; omega))) fun _ => ?_; (try simp ))
      refine CondK.tt ?_
      try simp 
      try simp 
      repeat' (first
        | (refine CallX.pure (known_c) (by simp) (by simp) ?_; try simp )
        | (refine CallK.intro (known_c) (by simp) (by simp) ?_; try simp )
        | (refine CallG.intro (fun _ => known_c) (by simp) (by simp) ?_; try simp )
        | ((with_reducible refine PreK.intro ?_ ?_); (next => (first | omega | (intros; first | omega | (refine ⟨by omega, ?_⟩; repeat (first | assumption | constructor)) | assumption))); intro _; try simp )
        | fail)
    | false =>
      try simp 
      repeat (refine PreK.intro (by first | omega | (intros; first | omega | (refine ⟨by omega, ?_⟩; simp_all; done) | (simp_all; done) | (simp_all; omega))) fun _ => ?_; (try simp ))
      refine CondK.ff ?_
      try simp 
      have c1 := CheckTable_c n f t (longT_small hL) (longT_small hM)
      have c2 := rCheckTable_c n f t (longT_small hL) (longT_small hM)
      generalize checkT n f t = e at *
      try simp 
      repeat' (first
        | (refine CallX.pure (c1) (by simp) (by simp) ?_; try simp )
        | (refine CallK.intro (c1) (by simp) (by simp) ?_; try simp )
        | (refine CallG.intro (fun _ => c1) (by simp) (by simp) ?_; try simp )
        | (refine CallX.pure (c2) (by simp) (by simp) ?_; try simp )
        | (refine CallK.intro (c2) (by simp) (by simp) ?_; try simp )
        | (refine CallG.intro (fun _ => c2) (by simp) (by simp) ?_; try simp )
        | ((with_reducible refine PreK.intro ?_ ?_); (next => (first | omega | (intros; first | omega | (refine ⟨by omega, ?_⟩; repeat (first | assumption | constructor)) | assumption))); intro _; try simp )
        | fail)
      try simp 
      repeat' (first
        | (refine CallX.pure (known_c) (by simp) (by simp) ?_; try simp )
        | (refine CallK.intro (known_c) (by simp) (by simp) ?_; try simp )
        | (refine CallG.intro (fun _ => known_c) (by simp) (by simp) ?_; try simp )
        | ((with_reducible refine PreK.intro ?_ ?_); (next => (first | omega | (intros; first | omega | (refine ⟨by omega, ?_⟩; repeat (first | assumption | constructor)) | assumption))); intro _; try simp )
        | fail)
/-! ### the table that is made -/
def TableE (n : Int) (f : List (List Int)) : List (List Int) × Bool × Int := if famErr n f ≠ 0 then ([], false, famErr n f) else if (bestF f n.toNat).1 = [] then ([], false, 0) else (cutM (bestF f n.toNat).1 0 (bestF f n.toNat).2, true, 0)
theorem Table_c (n : Int) (f : List (List Int)) (hs : Sm f) : CallP Tryz.prog 19 [iv n, tabV f] (.tup [tabV (TableE n f).1, bv (TableE n f).2.1, iv (TableE n f).2.2]) := by
  refine C19 (by simp) ?_
  have hv := ValidateFamily_c n f hs
  unfold TableE
  by_cases h0 : famErr n f = 0
  · obtain ⟨k, rfl, hf⟩ := famErr_zero h0
    have hb := best_c f k hf
    have hok := (best_ok hf.lo f).ok
    rw [if_neg (by simpa using h0)]
    rw [h0] at hv
    rw [Int.toNat_natCast]
    by_cases h1 : (bestF f k).1 = []
    · rw [if_pos h1]
      generalize bestF f k = B at *
      obtain ⟨o, l⟩ := B
      dsimp only at *
      subst h1
      simp [A19]
      try simp 
      repeat' (first
        | (refine CallX.pure (hv) (by simp) (by simp) ?_; try simp )
        | (refine CallK.intro (hv) (by simp) (by simp) ?_; try simp )
        | (refine CallG.intro (fun _ => hv) (by simp) (by simp) ?_; try simp )
        | ((with_reducible refine PreK.intro ?_ ?_); (next => (first | omega | (intros; first | omega | (refine ⟨by omega, ?_⟩; repeat (first | assumption | constructor)) | assumption))); intro _; try simp )
        | fail)
      refine CondK.ff ?_
      try simp 
      repeat (refine PreK.intro (by first | omega | (intros; first | omega | (refine ⟨by omega, ?_⟩; simp_all; done) | (simp_all; done) | (simp_all; omega))) fun _ => ?_; (try simp ))
      refine CallX.pure (by simpa using hb) (by simp) (by simp) ?_
      try simp 
      repeat (refine PreK.intro (by first | omega | (intros; first | omega | (refine ⟨by omega, ?_⟩; simp_all; done) | (simp_all; done) | (simp_all; omega))) fun _ => ?_; (try simp ))
      refine CondK.tt ?_
      try simp 
      repeat (refine PreK.intro (by first | omega | (intros; first | omega | (refine ⟨by omega, ?_⟩; simp_all; done) | (simp_all; done) | (simp_all; omega))) fun _ => ?_; (try simp ))
    · rw [if_neg h1]
      obtain ⟨g1, g2, g3⟩ := hok h1
      have hcut := cutOK_marks hf g1
      rw [← g3] at hcut
      generalize bestF f k = B at *
      obtain ⟨o, l⟩ := B
      dsimp only at *
      clear g2 g3
      have hol := g1.len
      have hhi := hf.hi
      have hup := hcut.up
      have hval := hcut.val
      generalize hR : cutM o 0 l = R
      simp [A19]
      try simp 
      repeat' (first
        | (refine CallX.pure (hv) (by simp) (by simp) ?_; try simp )
        | (refine CallK.intro (hv) (by simp) (by simp) ?_; try simp )
        | (refine CallG.intro (fun _ => hv) (by simp) (by simp) ?_; try simp )
        | ((with_reducible refine PreK.intro ?_ ?_); (next => (first | omega | (intros; first | omega | (refine ⟨by omega, ?_⟩; repeat (first | assumption | constructor)) | assumption))); intro _; try simp )
        | fail)
      refine CondK.ff ?_
      try simp 
      repeat (refine PreK.intro (by first | omega | (intros; first | omega | (refine ⟨by omega, ?_⟩; simp_all; done) | (simp_all; done) | (simp_all; omega))) fun _ => ?_; (try simp ))
      refine CallX.pure (by simpa using hb) (by simp) (by simp) ?_
      try simp [h1]
      repeat (refine PreK.intro (by first | omega | (intros; first | omega | (refine ⟨by omega, ?_⟩; simp_all; done) | (simp_all; done) | (simp_all; omega))) fun _ => ?_; (try simp [h1]))
      refine CondK.ff ?_
      try simp 
      repeat (refine PreK.intro (by first | omega | (intros; first | omega | (refine ⟨by omega, ?_⟩; simp_all; done) | (simp_all; done) | (simp_all; omega))) fun _ => ?_; (try simp ))
      refine LoopK.by (ι := Nat × Nat × Nat × List (List Int)) (fun x => ⟨[(32, iv x.1), (31, iv l.length), (30, ints l), (12, iv x.2.1), (11, .sl 11 x.2.2.1 0 x.2.2.2.length), (8, ints o)], [(11, some ⟨1, x.2.2.2.map ints, x.2.2.1, false⟩)]⟩) (fun x => l.length - x.1)
        (fun x => x.1 ≤ l.length ∧ x.2.1 ≤ o.length ∧ (∀ e ∈ l.drop x.1, (x.2.1 : Int) ≤ e) ∧ x.2.2.2 ++ cutM o x.2.1 (l.drop x.1) = R) (0, 0, 1, []) ⟨Nat.zero_le _, Nat.zero_le _, fun e he => by have := hval e (by simpa using he); dsimp only; omega, by simpa using hR⟩ (by simp) ?_
      intro ⟨i, fr, ver, acc⟩ Q' ⟨hi, hfr, hlo, hc⟩ hq he hr
      dsimp only at hi hfr hlo hc
      have hlen := congrArg List.length hc
      have hRl : R.length = l.length := by rw [← hR, cut_len]
      have hl6 : l.length ≤ 6 := by
        have h1 := nodup_le (pairwise_lt_nodup hup) fun x hx => mem_ids.2 (hval x hx)
        rw [ids_len] at h1
        omega
      simp only [List.length_append] at hlen
      try simp 
      refine CondK.intro (fun h2 => ?_) (fun h2 => ?_)
      · simp at h2
        rw [drop_cons l i h2] at hlo hc
        have hev := hval _ (el_mem_of l i h2)
        have hef := hlo (el l i) (by simp)
        obtain ⟨e, hee⟩ : ∃ e : Nat, el l i = (e : Int) := ⟨(el l i).toNat, by omega⟩
        rw [cutM, hee, Int.toNat_natCast] at hc
        rw [hee] at hev hef
        have hclo := clone_k false ((o.take (e + 1)).drop fr) (by simp; omega)
        have hgd : List.drop fr (List.take (e + 1) (List.map iv o)) = List.map iv ((o.take (e + 1)).drop fr) := by simp [List.map_drop, List.map_take]
        have hnat : ((e : Int) + 1).toNat = e + 1 := by omega
        have hgl : ((o.take (e + 1)).drop fr).length = e + 1 - fr := by simp; omega
        have hnext : ∀ x ∈ l.drop (i + 1), ((e + 1 : Nat) : Int) ≤ x := by
          intro x hx
          have h3 : (l.drop i).Pairwise (· < ·) := List.Pairwise.sublist (List.drop_sublist _ _) hup
          rw [drop_cons l i h2, List.pairwise_cons] at h3
          have := h3.1 x hx
          omega
        generalize (o.take (e + 1)).drop fr = G at *
        have htk : List.take (e + 1 - fr) (List.map iv G) = List.map iv G := List.take_of_length_le (by simp [hgl])
        try simp [h2, hee, hnat]
        repeat (refine PreK.intro (by first | omega | (intros; first | omega | (refine ⟨by omega, ?_⟩; simp_all; done) | (simp_all; done) | (simp_all; omega))) fun _ => ?_; (try simp [h2, hee, hnat]))
        refine CallX.own (by simpa [hgd, hnat] using hclo) (by simp) (by simp) ?_
        try simp [h2, hee, hnat, hgl]
        repeat (refine PreK.intro (by first | omega | (intros; first | omega | (refine ⟨by omega, ?_⟩; simp_all; done) | (simp_all; done) | (simp_all; omega))) fun _ => ?_; (try simp [h2, hee, hnat, hgl]))
        exact hq (i + 1, e + 1, ver + 1, acc ++ [G]) _ ⟨by dsimp only; omega, by dsimp only; omega, hnext, by simpa using hc⟩ (by dsimp only; omega) (by simp [htk])
      · simp at h2
        rw [List.drop_eq_nil_of_le (by omega), cutM, List.append_nil] at hc
        subst hc
        try simp 
        apply he
        repeat (refine PreK.intro (by first | omega | (intros; first | omega | (refine ⟨by omega, ?_⟩; simp_all; done) | (simp_all; done) | (simp_all; omega))) fun _ => ?_; (try simp ))
  · rw [if_pos h0]
    generalize famErr n f = e at *
    simp [A19]
    try simp 
    repeat' (first
      | (refine CallX.pure (hv) (by simp) (by simp) ?_; try simp )
      | (refine CallK.intro (hv) (by simp) (by simp) ?_; try simp )
      | (refine CallG.intro (fun _ => hv) (by simp) (by simp) ?_; try simp )
      | ((with_reducible refine PreK.intro ?_ ?_); (next => (first | omega | (intros; first | omega | (refine ⟨by omega, ?_⟩; repeat (first | assumption | constructor)) | assumption))); intro _; try simp )
      | fail)
    refine CondK.intro (fun h1 => ?_) (fun h1 => ?_)
    · repeat (refine PreK.intro (by first | omega | (intros; first | omega | (refine ⟨by omega, ?_⟩; simp_all; done) | (simp_all; done) | (simp_all; omega))) fun _ => ?_; (try simp ))
    · simp at h1
      exact absurd h1 h0
theorem cut_sm {n : Nat} {o l : List Int} (h : CutOK n o l) : Sm (cutM o 0 l) ∧ longT (cutM o 0 l) = false := by
  have h1 := tab_sm h.tab
  refine ⟨h1, ?_⟩
  unfold longT
  have h2 := h1.num
  simp only [Bool.or_eq_false_iff, decide_eq_false_iff_not, List.any_eq_false, decide_eq_true_eq]
  exact ⟨by omega, fun r hr => by have := h1.row r hr; omega⟩
theorem makes_law (n : Int) (f : List (List Int)) : (TableE n f).2.2 = (FewE n f).2.2 ∧ (TableE n f).2.1 = (FewE n f).2.1 ∧ ((TableE n f).2.1 = false → (TableE n f).1 = []) ∧
    ((TableE n f).2.1 = true → longT (TableE n f).1 = false ∧ Sm (TableE n f).1 ∧ checkT n f (TableE n f).1 = 0 ∧ ((TableE n f).1.length : Int) = (FewE n f).1) := by
  unfold TableE FewE
  by_cases h0 : famErr n f = 0
  · obtain ⟨k, rfl, hf⟩ := famErr_zero h0
    have hok := best_ok hf.lo f
    have e0 : ¬ famErr (k : Int) f ≠ 0 := by simpa using h0
    rw [if_neg e0, if_neg e0, Int.toNat_natCast]
    by_cases h1 : (bestF f k).1 = []
    · rw [if_pos h1]
      have : fewM f k = 0 := hok.nil.1 h1
      rw [this]
      exact ⟨rfl, rfl, fun _ => rfl, fun h => by cases h⟩
    · rw [if_neg h1]
      obtain ⟨g1, g2, g3⟩ := hok.ok h1
      have hcut := cutOK_marks hf g1
      have hne : fewM f k ≠ 0 := fun h => h1 (hok.nil.2 h)
      have hfew := hok.few
      have hpos : decide (0 < fewM f k) = true := by rw [decide_eq_true_eq]; omega
      rw [hpos]
      refine ⟨rfl, rfl, (fun h => by cases h), fun _ => ?_⟩
      dsimp only
      rw [g3]
      obtain ⟨s1, s2⟩ := cut_sm hcut
      refine ⟨s2, s1, check_marks hf g1 g2, ?_⟩
      rw [cut_len, ← g3, hfew]
  · rw [if_pos h0, if_pos h0]
    exact ⟨rfl, rfl, fun _ => rfl, fun h => by cases h⟩
theorem lawSoundMakes_c (n : Int) (f : List (List Int)) (hb : f.length ≤ big) : CallP Tryz.prog 5 [iv n, tabV f] (bv true) := by
  refine C5 (by simp) ?_
  have hlg := Long_c f hb
  simp [A5]
  try simp 
  repeat' (first
    | (refine CallX.pure (hlg) (by simp) (by simp) ?_; try simp )
    | (refine CallK.intro (hlg) (by simp) (by simp) ?_; try simp )
    | (refine CallG.intro (fun _ => hlg) (by simp) (by simp) ?_; try simp )
    | ((with_reducible refine PreK.intro ?_ ?_); (next => (first | omega | (intros; first | omega | (refine ⟨by omega, ?_⟩; repeat (first | assumption | constructor)) | assumption))); intro _; try simp )
    | fail)
  cases hL : longT f with
  | true =>
    refine CondK.tt ?_
    try simp 
    try simp 
    repeat' (first
      | (refine CallX.pure (known_c) (by simp) (by simp) ?_; try simp )
      | (refine CallK.intro (known_c) (by simp) (by simp) ?_; try simp )
      | (refine CallG.intro (fun _ => known_c) (by simp) (by simp) ?_; try simp )
      | ((with_reducible refine PreK.intro ?_ ?_); (next => (first | omega | (intros; first | omega | (refine ⟨by omega, ?_⟩; repeat (first | assumption | constructor)) | assumption))); intro _; try simp )
      | fail)
  | false =>
    refine CondK.ff ?_
    try simp 
    have hs := longT_small hL
    have c1 := Table_c n f hs
    have c2 := rFewest_c n f hs
    obtain ⟨l1, l2, l3, l4⟩ := makes_law n f
    have c3 := fun h => rCheckTable_c n f (TableE n f).1 hs h
    have c4 := fun h => Long_c (TableE n f).1 h
    generalize TableE n f = T at *
    generalize FewE n f = F at *
    obtain ⟨t, ok, e⟩ := T
    obtain ⟨m, is, g⟩ := F
    dsimp only at *
    subst l1 l2
    try simp 
    repeat' (first
      | (refine CallX.pure (c1) (by simp) (by simp) ?_; try simp )
      | (refine CallK.intro (c1) (by simp) (by simp) ?_; try simp )
      | (refine CallG.intro (fun _ => c1) (by simp) (by simp) ?_; try simp )
      | (refine CallX.pure (c2) (by simp) (by simp) ?_; try simp )
      | (refine CallK.intro (c2) (by simp) (by simp) ?_; try simp )
      | (refine CallG.intro (fun _ => c2) (by simp) (by simp) ?_; try simp )
      | ((with_reducible refine PreK.intro ?_ ?_); (next => (first | omega | (intros; first | omega | (refine ⟨by omega, ?_⟩; repeat (first | assumption | constructor)) | assumption))); intro _; try simp )
      | fail)
    refine CondK.ff ?_
    try simp 
    try simp 
    repeat (refine PreK.intro (by first | omega | (intros; first | omega | (refine ⟨by omega, ?_⟩; simp_all; done) | (simp_all; done) | (simp_all; omega))) fun _ => ?_; (try simp ))
    cases ok with
    | false =>
      have := l3 rfl
      subst this
      refine CondK.tt ?_
      try simp 
      try simp 
      repeat (refine PreK.intro (by first | omega | (intros; first | omega | (refine ⟨by omega, ?_⟩; simp_all; done) | (simp_all; done) | (simp_all; omega))) fun _ => ?_; (try simp ))
      try simp 
      repeat' (first
        | (refine CallX.pure (known_c) (by simp) (by simp) ?_; try simp )
        | (refine CallK.intro (known_c) (by simp) (by simp) ?_; try simp )
        | (refine CallG.intro (fun _ => known_c) (by simp) (by simp) ?_; try simp )
        | ((with_reducible refine PreK.intro ?_ ?_); (next => (first | omega | (intros; first | omega | (refine ⟨by omega, ?_⟩; repeat (first | assumption | constructor)) | assumption))); intro _; try simp )
        | fail)
    | true =>
      obtain ⟨k1, k2, k3, k4⟩ := l4 rfl
      have c3 := c3 k2
      have c4 := c4 (by have := k2.num; simp only [big]; omega)
      rw [k1] at c4
      rw [k3] at c3
      refine CondK.ff ?_
      try simp 
      try simp 
      repeat (refine PreK.intro (by first | omega | (intros; first | omega | (refine ⟨by omega, ?_⟩; simp_all; done) | (simp_all; done) | (simp_all; omega))) fun _ => ?_; (try simp ))
      try simp 
      repeat' (first
        | (refine CallX.pure (c4) (by simp) (by simp) ?_; try simp )
        | (refine CallK.intro (c4) (by simp) (by simp) ?_; try simp )
        | (refine CallG.intro (fun _ => c4) (by simp) (by simp) ?_; try simp )
        | ((with_reducible refine PreK.intro ?_ ?_); (next => (first | omega | (intros; first | omega | (refine ⟨by omega, ?_⟩; repeat (first | assumption | constructor)) | assumption))); intro _; try simp )
        | fail)
      try simp 
      repeat' (first
        | (refine CallX.pure (c3) (by simp) (by simp) ?_; try simp )
        | (refine CallK.intro (c3) (by simp) (by simp) ?_; try simp )
        | (refine CallG.intro (fun _ => c3) (by simp) (by simp) ?_; try simp )
        | ((with_reducible refine PreK.intro ?_ ?_); (next => (first | omega | (intros; first | omega | (refine ⟨by omega, ?_⟩; repeat (first | assumption | constructor)) | assumption))); intro _; try simp )
        | fail)
      try simp [k4]
      repeat' (first
        | (refine CallX.pure (known_c) (by simp) (by simp) ?_; try simp [k4])
        | (refine CallK.intro (known_c) (by simp) (by simp) ?_; try simp [k4])
        | (refine CallG.intro (fun _ => known_c) (by simp) (by simp) ?_; try simp [k4])
        | ((with_reducible refine PreK.intro ?_ ?_); (next => (first | omega | (intros; first | omega | (refine ⟨by omega, ?_⟩; repeat (first | assumption | constructor)) | assumption))); intro _; try simp [k4])
        | fail)
end Go.Proofs.YtgfgkfkplidncaaGreat
end
