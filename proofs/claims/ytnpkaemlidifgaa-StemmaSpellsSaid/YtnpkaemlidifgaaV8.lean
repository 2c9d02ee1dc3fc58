/- Part 8 of the proof: the value layer and the contracts of the functions that the statement reaches; proved without conditions beyond those each theorem states. -/
import Derived.RangeFuncBox
import Derived.RangeFuncLeaves
import Derived.Shelf.Abstract
import Derived.OwnWalkIn
import Derived.TacticsInMore
import Derived.LoopNIn
import Derived.LoopIn
import Derived.Test.YtnpkaemlidifgaaV4
import Derived.Test.YtnpkaemlidifgaaV5
import Derived.Test.YtnpkaemlidifgaaV6
import Derived.Test.YtnpkaemlidifgaaV7
set_option linter.unusedSimpArgs false
set_option linter.unusedVariables false

section
/- Contracts: sides and conflicts. -/
namespace Go.Proofs.Ytnpkaemlidifgaa
open Go.Abs Go
set_option maxRecDepth 20000
set_option maxHeartbeats 2000000
attribute [local irreducible] PreK CondK CallK CallG CallX LoopK
attribute [local simp] avsEq avEq akind teq vkind vEq

theorem weakM {α : Type} (f : α → AV) (hf : ∀ x, weak (f x) = f x) : ∀ l : List α, weakL (l.map f) = l.map f
  | [] => rfl
  | x :: l => by simp [weakL, hf x, weakM f hf l]
@[simp] theorem weakI (l : List Int) : weakL (l.map iv) = l.map iv := weakM iv (fun _ => rfl) l
@[simp] theorem weakR (t : List (List Int)) : weakL (t.map ints) = t.map ints := weakM ints (fun w => by simp only [ints, weak, weakI]) t
theorem placed_zero {t : List (List Int)} {ps : List Int} (h : placedErr t ps = 0) : Rds t ∧ ∀ p ∈ ps, 0 ≤ p ∧ p.toNat < wid t := by
  unfold placedErr at h
  split at h
  · rename_i h1; exact absurd h h1
  · rename_i h1
    split at h
    · cases h
    · rename_i h2
      refine ⟨vErr_zero (by simpa using h1), fun p hp => ?_⟩
      have : noPlace t p = false := by
        cases hb : noPlace t p with
        | false => rfl
        | true => exact absurd (List.any_eq_true.2 ⟨p, hp, hb⟩) h2
      unfold noPlace at this
      simp at this
      omega
theorem placed_nat {t : List (List Int)} {ps : List Int} (h : placedErr t ps = 0) {p : Int} (hp : p ∈ ps) : ∃ n : Nat, p = (n : Int) ∧ n < wid t := by
  have := (placed_zero h).2 p hp
  exact ⟨p.toNat, by omega, this.2⟩
def DiffR (t : List (List Int)) (p : Int) : Int × Int := if placedErr t [p] ≠ 0 then (0, placedErr t [p]) else ((diffN (colM t p.toNat) : Nat), 0)
theorem Different_c (t : List (List Int)) (p : Int) (h : Sm t) : CallP Try.prog 23 [rdsV t, iv p] (.tup [iv (DiffR t p).1, iv (DiffR t p).2]) := by
  refine C23 (by simp) ?_
  have hp := placed_c t [p] h (by simp)
  simp [A23]
  refine CallX.pure (CallP.weak (by simpa [weakL, weak] using hp)) (by simp) (by simp) ?_
  try simp 
  refine CondK.intro (fun h1 => ?_) (fun h1 => ?_)
  · simp at h1
    simp [DiffR, h1]
  · simp at h1
    obtain ⟨n, rfl, hn⟩ := placed_nat h1 (List.mem_singleton.2 rfl)
    have hr := (placed_zero h1).1
    have hd := different_c (colM t n) (by rw [colM_len]; have := hr.num; omega)
    try simp 
    repeat' (first
      | (refine CallX.pure (column_c t n hn hr) (by simp) (by simp) ?_; try simp )
      | (refine CallK.intro (column_c t n hn hr) (by simp) (by simp) ?_; try simp )
      | (refine CallG.intro (fun _ => column_c t n hn hr) (by simp) (by simp) ?_; try simp )
      | (refine CallX.pure (hd) (by simp) (by simp) ?_; try simp )
      | (refine CallK.intro (hd) (by simp) (by simp) ?_; try simp )
      | (refine CallG.intro (fun _ => hd) (by simp) (by simp) ?_; try simp )
      | ((with_reducible refine PreK.intro ?_ ?_); (next => (first | omega | (intros; first | omega | (refine ⟨by omega, ?_⟩; repeat (first | assumption | constructor)) | assumption))); intro _; try simp )
      | fail)
    simp [DiffR, h1]
/-! ### conflicts -/
def entsP (l : List (Int × Int)) : List AV := l.map fun x => .tup [.agg [iv x.1, iv x.2], bv true]
def addP (l : List (Int × Int)) (x : Int × Int) : List (Int × Int) := if x ∈ l then l else l ++ [x]
def okP (x : Int × Int) : Prop := (0 ≤ x.1 ∧ x.1 ≤ 2) ∧ 0 ≤ x.2 ∧ x.2 ≤ 2
theorem keysOK_P : ∀ l : List (Int × Int), (∀ x ∈ l, okP x) → keysOK .two (entsP l) = true
  | [], _ => rfl
  | x :: l, h => by
    have hx := h x (by simp)
    have ih := keysOK_P l fun y hy => h y (by simp [hy])
    unfold okP at hx
    simp only [entsP, List.map_cons, keysOK, entK, akey, iv] at ih ⊢
    rw [ih]
    simp [KK.fits]
    omega
theorem mfind_P (x : Int × Int) : ∀ (l : List (Int × Int)) (i : Nat), mfind (.two x.1 x.2) (entsP l) i = if x ∈ l then some (i + l.idxOf x, bv true) else none
  | [], i => by simp [entsP, mfind]
  | y :: l, i => by
    have ih := mfind_P x l (i + 1)
    have e0 : entsP (y :: l) = .tup [.agg [iv y.1, iv y.2], bv true] :: entsP l := rfl
    have e1 : entK (.tup [.agg [iv y.1, iv y.2], bv true]) = some (.two y.1 y.2) := rfl
    have e2 : entW (.tup [.agg [iv y.1, iv y.2], bv true]) = bv true := rfl
    rw [e0, mfind]
    by_cases e : y = x
    · subst e
      rw [if_pos e1, e2]
      simp
    · rw [if_neg (fun h => by rw [e1] at h; simp at h; exact e (Prod.ext h.1 h.2)), ih]
      by_cases hx : x ∈ l
      · rw [if_pos hx, if_pos (by simp [hx]), List.idxOf_cons]
        simp [beq_eq_false_iff_ne.2 e]
        omega
      · rw [if_neg hx, if_neg (by simp [hx, Ne.symm e])]
theorem mput_P (x : Int × Int) (l : List (Int × Int)) : mput (.two x.1 x.2) (.tup [.agg [iv x.1, iv x.2], bv true]) (entsP l) = entsP (addP l x) := by
  unfold mput addP
  rw [mfind_P]
  by_cases h : x ∈ l
  · rw [if_pos h, if_pos h]
    dsimp only
    rw [Nat.zero_add]
    have hi := List.idxOf_lt_length_of_mem h
    apply List.ext_getElem?
    intro k
    rw [List.getElem?_set]
    by_cases e : l.idxOf x = k
    · subst e
      have : l[l.idxOf x] = x := List.getElem_idxOf hi
      simp [entsP, hi, this]
    · simp [e]
  · rw [if_neg h, if_neg h]
    simp [entsP]
theorem addP_mem (l : List (Int × Int)) (x y : Int × Int) : y ∈ addP l x ↔ y ∈ l ∨ y = x := by
  unfold addP
  split
  · rename_i h
    exact ⟨.inl, fun h2 => h2.elim id fun e => e ▸ h⟩
  · simp
theorem addP_nodup {l : List (Int × Int)} (h : l.Nodup) (x : Int × Int) : (addP l x).Nodup := by
  unfold addP
  split
  · exact h
  · rename_i hx
    rw [List.nodup_append]
    exact ⟨h, by simp, fun a ha b hb e => by simp at hb; subst hb; exact hx (e ▸ ha)⟩
def addsP : List (Int × Int) → List (Int × Int) → List (Int × Int)
  | acc, [] => acc
  | acc, x :: l => addsP (addP acc x) l
theorem addsP_spec : ∀ (l acc : List (Int × Int)), acc.Nodup → (addsP acc l).Nodup ∧ ∀ y, y ∈ addsP acc l ↔ y ∈ acc ∨ y ∈ l
  | [], acc, h => ⟨h, fun y => by simp [addsP]⟩
  | x :: l, acc, h => by
    obtain ⟨h1, h2⟩ := addsP_spec l _ (addP_nodup h x)
    refine ⟨h1, fun y => ?_⟩
    rw [addsP, h2, addP_mem, List.mem_cons, or_assoc]
theorem addsP_len (l : List (Int × Int)) : (addsP [] l).length = diffN l := by
  obtain ⟨h1, h2⟩ := addsP_spec l [] List.nodup_nil
  symm
  exact diffN_of h1 fun x => by rw [h2]; simp
theorem zip_drop {a b : List Int} {i : Nat} (h : i < a.length) (h2 : i < b.length) : (a.zip b).drop i = (el a i, el b i) :: (a.zip b).drop (i + 1) := by
  have hi : i < (a.zip b).length := by simp; omega
  rw [drop_cons _ i hi]
  congr 1
  unfold el
  rw [List.getD_eq_getElem?_getD, List.getElem?_eq_getElem hi, List.getD_eq_getElem?_getD, List.getD_eq_getElem?_getD, List.getElem?_eq_getElem h, List.getElem?_eq_getElem h2]
  simp
theorem conflict_c (t : List (List Int)) (p q : Nat) (hp : p < wid t) (hq : q < wid t) (hr : Rds t) : CallP Try.prog 77 [rdsV t, iv p, iv q] (bv (confM t p q)) := by
  refine C77 (by simp) ?_
  have hn := hr.num
  have hco := column_c t p hp hr
  have hco2 := column_c t q hq hr
  have hcl := colM_len t p
  have hcl2 := colM_len t q
  have hva := hr.col hp
  have hvb := hr.col hq
  generalize hR : confM t p q = R
  unfold confM at hR
  generalize colM t p = a at hco hcl hva hR
  generalize colM t q = b at hco2 hcl2 hvb hR
  have hd := different_c a (by omega)
  have hd2 := different_c b (by omega)
  have hdn := diffN_len a
  have hdn2 := diffN_len b
  have hdz := diffN_len (a.zip b)
  rw [List.length_zip] at hdz
  simp [A77]
  try simp 
  repeat' (first
    | (refine CallX.pure (hco) (by simp) (by simp) ?_; try simp )
    | (refine CallK.intro (hco) (by simp) (by simp) ?_; try simp )
    | (refine CallG.intro (fun _ => hco) (by simp) (by simp) ?_; try simp )
    | (refine CallX.pure (hco2) (by simp) (by simp) ?_; try simp )
    | (refine CallK.intro (hco2) (by simp) (by simp) ?_; try simp )
    | (refine CallG.intro (fun _ => hco2) (by simp) (by simp) ?_; try simp )
    | (refine CallX.pure (hd) (by simp) (by simp) ?_; try simp )
    | (refine CallK.intro (hd) (by simp) (by simp) ?_; try simp )
    | (refine CallG.intro (fun _ => hd) (by simp) (by simp) ?_; try simp )
    | ((with_reducible refine PreK.intro ?_ ?_); (next => (first | omega | (intros; first | omega | (refine ⟨by omega, ?_⟩; repeat (first | assumption | constructor)) | assumption))); intro _; try simp )
    | fail)
  by_cases e1 : diffN a = 2
  · rw [e1] at hR
    try simp [e1]
    repeat' (first
      | (refine CallX.pure (hd2) (by simp) (by simp) ?_; try simp [e1])
      | (refine CallK.intro (hd2) (by simp) (by simp) ?_; try simp [e1])
      | (refine CallG.intro (fun _ => hd2) (by simp) (by simp) ?_; try simp [e1])
      | ((with_reducible refine PreK.intro ?_ ?_); (next => (first | omega | (intros; first | omega | (refine ⟨by omega, ?_⟩; repeat (first | assumption | constructor)) | assumption))); intro _; try simp [e1])
      | fail)
    refine CondK.intro (fun h1 => ?_) (fun h1 => ?_)
    · have e : ¬ diffN b = 2 := by simp at h1; omega
      simp [e] at hR
      simp [hR]
    · have e : diffN b = 2 := by simp at h1; omega
      simp only [e, decide_true, Bool.true_and] at hR
      try simp 
      repeat (refine PreK.intro (by first | omega | (intros; first | omega | (refine ⟨by omega, ?_⟩; simp_all; done) | (simp_all; done) | (simp_all; omega))) fun _ => ?_; (try simp ))
      refine LoopK.by (ι := Nat × List (Int × Int)) (fun x => ⟨[(28, iv x.1), (27, iv a.length), (7, ints a), (8, ints b), (9, .mp 25 1)], [(25, some ⟨0, entsP x.2, 1, false⟩)]⟩) (fun x => a.length - x.1)
        (fun x => x.1 ≤ a.length ∧ x.2.length ≤ x.1 ∧ (∀ y ∈ x.2, okP y) ∧ addsP x.2 ((a.zip b).drop x.1) = addsP [] (a.zip b)) (0, []) ⟨Nat.zero_le _, by simp, by simp, by simp⟩ (by simp [entsP]) ?_
      intro ⟨i, acc⟩ Q' ⟨hi, ha, hok, hc⟩ hq' he hr'
      dsimp only at hi ha hok hc
      have hel : (entsP acc).length = acc.length := by simp [entsP]
      have hky := keysOK_P acc hok
      try simp 
      refine CondK.intro (fun h2 => ?_) (fun h2 => ?_)
      · simp at h2
        have h3 : i < b.length := by omega
        rw [zip_drop h2 h3, addsP] at hc
        have v1 := hva _ (el_mem_of a i h2)
        have v2 := hvb _ (el_mem_of b i h3)
        have hmp := mput_P (el a i, el b i) acc
        have f1 : el a i < 1000000 := by omega
        have f2 : el b i < 1000000 := by omega
        have f3 : 0 ≤ el a i := v1.1
        have f4 : 0 ≤ el b i := v2.1
        have f5 : acc.length < big := by have := sbig (show acc.length ≤ 1000 by omega); simp only [big] at this ⊢; omega
        unfold mput at hmp
        simp only [iv, bv] at hmp
        repeat (refine PreK.intro (by first | omega | (intros; first | omega | (refine ⟨by omega, ?_⟩; simp_all; done) | (simp_all; done) | (simp_all; omega))) fun _ => ?_; (try simp [h2, h3, hky, hel, f1, f2, f3, f4, f5]))
        refine hq' (i + 1, addP acc (el a i, el b i)) _ ⟨by dsimp only; omega, ?_, fun y hy => ?_, hc⟩ (by dsimp only; omega) (by simp; exact .inl hmp)
        · dsimp only
          unfold addP
          split
          · omega
          · simp; omega
        · rcases (addP_mem _ _ _).1 hy with hy | rfl
          · exact hok y hy
          · exact ⟨v1, v2⟩
      · simp at h2
        rw [List.drop_eq_nil_of_le (by simp; omega)] at hc
        simp only [addsP] at hc
        have hl := addsP_len (a.zip b)
        rw [← hc] at hl
        try simp 
        apply he
        rw [← hR, ← hl]
        repeat (refine PreK.intro (by first | omega | (intros; first | omega | (refine ⟨by omega, ?_⟩; simp_all; done) | (simp_all; done) | (simp_all; omega))) fun _ => ?_; (try simp [hel]))
        omega
  · have hR' : R = false := by simpa [e1] using hR.symm
    subst hR'
    have e1' : ¬ ((diffN a : Nat) : Int) = 2 := by omega
    try simp [e1']
    repeat' (first
      | ((with_reducible refine PreK.intro ?_ ?_); (next => (first | omega | (intros; first | omega | (refine ⟨by omega, ?_⟩; repeat (first | assumption | constructor)) | assumption))); intro _; try simp [e1'])
      | fail)
    refine CallG.intro (r := bv true) (fun hh => by cases hh) (by simp) (by simp) ?_
    try simp 
    repeat (refine PreK.intro (by first | omega | (intros; first | omega | (refine ⟨by omega, ?_⟩; simp_all; done) | (simp_all; done) | (simp_all; omega))) fun _ => ?_; (try simp [e1']))
    refine CondK.tt ?_
    try simp 
end Go.Proofs.Ytnpkaemlidifgaa
end

section
/- Contracts: all conflicts, by both ways. -/
namespace Go.Proofs.Ytnpkaemlidifgaa
open Go.Abs Go
set_option maxRecDepth 20000
set_option maxHeartbeats 2000000
attribute [local irreducible] PreK CondK CallK CallG CallX LoopK
attribute [local simp] avsEq avEq akind teq vkind vEq

def ConfR (t : List (List Int)) (p q : Int) : Bool × Int := if placedErr t [p, q] ≠ 0 then (false, placedErr t [p, q]) else (confM t p.toNat q.toNat, 0)
theorem Conflict_c (t : List (List Int)) (p q : Int) (h : Sm t) : CallP Try.prog 37 [rdsV t, iv p, iv q] (.tup [bv (ConfR t p q).1, iv (ConfR t p q).2]) := by
  refine C37 (by simp) ?_
  have hp := placed_c t [p, q] h (by simp)
  simp [A37]
  refine CallX.pure (CallP.weak (by simpa [weakL, weak] using hp)) (by simp) (by simp) ?_
  try simp 
  refine CondK.intro (fun h1 => ?_) (fun h1 => ?_)
  · simp at h1
    simp [ConfR, h1]
  · simp at h1
    obtain ⟨n, rfl, hn⟩ := placed_nat h1 (List.mem_cons_self ..)
    obtain ⟨m, rfl, hm⟩ := placed_nat h1 (List.mem_cons_of_mem _ (List.mem_singleton.2 rfl))
    have hr := (placed_zero h1).1
    try simp 
    repeat' (first
      | (refine CallX.pure (conflict_c t n m hn hm hr) (by simp) (by simp) ?_; try simp )
      | (refine CallK.intro (conflict_c t n m hn hm hr) (by simp) (by simp) ?_; try simp )
      | (refine CallG.intro (fun _ => conflict_c t n m hn hm hr) (by simp) (by simp) ?_; try simp )
      | ((with_reducible refine PreK.intro ?_ ?_); (next => (first | omega | (intros; first | omega | (refine ⟨by omega, ?_⟩; repeat (first | assumption | constructor)) | assumption))); intro _; try simp )
      | fail)
    simp [ConfR, h1]
/-! ### all of them -/
@[simp] def pairV (x : Nat × Nat) : AV := .agg [iv x.1, iv x.2]
@[simp] def pairsV (l : List (Nat × Nat)) : AV := .seq 2 (l.map pairV) false
theorem conflicts_c (t : List (List Int)) (hr : Rds t) : CallP Try.prog 79 [rdsV t] (pairsV (confsM t)) := by
  refine C79 (by simp) ?_
  have hn := hr.num
  have e0 : 0 < t.length := hr.pos
  have hw : wid t ≤ 6 := hr.w6
  have hwd : (el t 0).length = wid t := rfl
  have hcl := confs_len t hw
  generalize hR : confsM t = R at hcl
  unfold confsM at hR
  simp [A79]
  repeat (refine PreK.intro (by first | omega | (intros; first | omega | (refine ⟨by omega, ?_⟩; simp_all; done) | (simp_all; done) | (simp_all; omega))) fun _ => ?_; (try simp [e0, hwd]))
  refine LoopK.by (ι := Nat × Nat × List (Nat × Nat)) (fun x => ⟨[(10, iv x.1), (9, iv (wid t)), (0, rdsV t), (3, .sl 3 x.2.1 0 x.2.2.length)], [(3, some ⟨2, x.2.2.map pairV, x.2.1, false⟩)]⟩) (fun x => wid t - x.1)
    (fun x => x.1 ≤ wid t ∧ x.2.2 ++ confsG t (wid t) x.1 (wid t - x.1) = R) (0, 1, []) ⟨Nat.zero_le _, by simpa using hR⟩ (by simp) ?_
  intro ⟨p, v, acc⟩ Q' ⟨hi, hc⟩ hq he hr'
  dsimp only at hi hc
  try simp 
  refine CondK.intro (fun h1 => ?_) (fun h1 => ?_)
  · simp at h1
    rw [show wid t - p = (wid t - (p + 1)) + 1 by omega, confsG] at hc
    repeat (refine PreK.intro (by first | omega | (intros; first | omega | (refine ⟨by omega, ?_⟩; simp_all; done) | (simp_all; done) | (simp_all; omega))) fun _ => ?_; (try simp ))
    refine LoopK.by (ι := Nat × Nat × List (Nat × Nat)) (fun x => ⟨[(5, iv x.1), (4, iv p), (10, iv p), (9, iv (wid t)), (0, rdsV t), (3, .sl 3 x.2.1 0 x.2.2.length)], [(3, some ⟨2, x.2.2.map pairV, x.2.1, false⟩)]⟩) (fun x => wid t - x.1)
      (fun x => p < x.1 ∧ x.1 ≤ wid t ∧ x.2.2 ++ (confsF t p x.1 (wid t - x.1) ++ confsG t (wid t) (p + 1) (wid t - (p + 1))) = R) (p + 1, v, acc) ⟨by dsimp only; omega, by dsimp only; omega, hc⟩ (by simp) ?_
    intro ⟨q, v2, acc2⟩ Q2 ⟨hpq, hj, hc2⟩ hq2 he2 hr2
    dsimp only at hpq hj hc2
    have hcl2 := congrArg List.length hc2
    simp only [List.length_append] at hcl2
    try simp 
    repeat (refine PreK.intro (by first | omega | (intros; first | omega | (refine ⟨by omega, ?_⟩; simp_all; done) | (simp_all; done) | (simp_all; omega))) fun _ => ?_; (try simp [e0, hwd]))
    refine CondK.intro (fun h2 => ?_) (fun h2 => ?_)
    · simp at h2
      have h2' : q < wid t := by omega
      rw [show wid t - q = (wid t - (q + 1)) + 1 by omega, confsF] at hc2
      have hcf := conflict_c t p q h1 h2' hr
      try simp 
      repeat' (first
        | (refine CallX.pure (hcf) (by simp) (by simp) ?_; try simp )
        | (refine CallK.intro (hcf) (by simp) (by simp) ?_; try simp )
        | (refine CallG.intro (fun _ => hcf) (by simp) (by simp) ?_; try simp )
        | ((with_reducible refine PreK.intro ?_ ?_); (next => (first | omega | (intros; first | omega | (refine ⟨by omega, ?_⟩; repeat (first | assumption | constructor)) | assumption))); intro _; try simp )
        | fail)
      refine CondK.intro (fun h3 => ?_) (fun h3 => ?_)
      · rw [if_pos h3] at hc2
        repeat (refine PreK.intro (by first | omega | (intros; first | omega | (refine ⟨by omega, ?_⟩; simp_all; done) | (simp_all; done) | (simp_all; omega))) fun _ => ?_; (try simp ))
        exact hq2 (q + 1, v2 + 1, acc2 ++ [(p, q)]) _ ⟨by dsimp only; omega, by dsimp only; omega, by simpa using hc2⟩ (by dsimp only; omega) (by simp)
      · rw [if_neg (by simp [h3])] at hc2
        repeat (refine PreK.intro (by first | omega | (intros; first | omega | (refine ⟨by omega, ?_⟩; simp_all; done) | (simp_all; done) | (simp_all; omega))) fun _ => ?_; (try simp ))
        exact hq2 (q + 1, v2, acc2) _ ⟨by dsimp only; omega, by dsimp only; omega, hc2⟩ (by dsimp only; omega) (by simp)
    · simp at h2
      have : q = wid t := by omega
      subst this
      simp only [Nat.sub_self, confsF, List.nil_append] at hc2
      try simp 
      apply he2
      repeat (refine PreK.intro (by first | omega | (intros; first | omega | (refine ⟨by omega, ?_⟩; simp_all; done) | (simp_all; done) | (simp_all; omega))) fun _ => ?_; (try simp ))
      exact hq (p + 1, v2, acc2) _ ⟨by dsimp only; omega, hc2⟩ (by dsimp only; omega) (by simp)
  · simp at h1
    have : p = wid t := by omega
    subst this
    simp only [Nat.sub_self, confsG, List.append_nil] at hc
    subst hc
    try simp 
    apply he
    try simp 
def ConfsR (t : List (List Int)) : List (Nat × Nat) × Int := if vErr t ≠ 0 then ([], vErr t) else (confsM t, 0)
theorem Conflicts_c (t : List (List Int)) (h : Sm t) : CallP Try.prog 39 [rdsV t] (.tup [pairsV (ConfsR t).1, iv (ConfsR t).2]) := by
  refine C39 (by simp) ?_
  simp [A39]
  try simp 
  repeat' (first
    | (refine CallX.pure (Validate_c t h) (by simp) (by simp) ?_; try simp )
    | (refine CallK.intro (Validate_c t h) (by simp) (by simp) ?_; try simp )
    | (refine CallG.intro (fun _ => Validate_c t h) (by simp) (by simp) ?_; try simp )
    | ((with_reducible refine PreK.intro ?_ ?_); (next => (first | omega | (intros; first | omega | (refine ⟨by omega, ?_⟩; repeat (first | assumption | constructor)) | assumption))); intro _; try simp )
    | fail)
  refine CondK.intro (fun h1 => ?_) (fun h1 => ?_)
  · simp at h1
    simp [ConfsR, h1]
  · simp at h1
    try simp 
    repeat' (first
      | (refine CallX.pure (conflicts_c t (vErr_zero h1)) (by simp) (by simp) ?_; try simp )
      | (refine CallK.intro (conflicts_c t (vErr_zero h1)) (by simp) (by simp) ?_; try simp )
      | (refine CallG.intro (fun _ => conflicts_c t (vErr_zero h1)) (by simp) (by simp) ?_; try simp )
      | ((with_reducible refine PreK.intro ?_ ?_); (next => (first | omega | (intros; first | omega | (refine ⟨by omega, ?_⟩; repeat (first | assumption | constructor)) | assumption))); intro _; try simp )
      | fail)
    simp [ConfsR, h1]
end Go.Proofs.Ytnpkaemlidifgaa
end

section
/- Functions of the cut as the value layer reads them. (written by gen.py) -/
set_option maxRecDepth 20000
namespace Go.Proofs.Ytnpkaemlidifgaa
open Go.Abs Go

def A116 : ACode :=
  (.seq (.reg [] [⟨some 4, (.assign (.const (.int .u64 0))), 106, none⟩,
      ⟨some 5, (.assign (.const (.int .u64 0))), 106, none⟩])
    (.seq (.cond (.const (.bool false))
    (.seq (.reg [] [⟨some 11, (.move (.tmp 0)), 106, none⟩,
      ⟨some 12, (.convert 106 119 (.tmp 11)), 119, none⟩,
      ⟨some 13, (.move (.tmp 1)), 106, none⟩,
      ⟨some 14, (.convert 106 119 (.tmp 13)), 119, none⟩,
      ⟨some 15, (.call ⟨(.value (.func 131)), #[(.tmp 12), (.tmp 14)], #[119, 119]⟩), 135, none⟩,
      ⟨some 10, (.move (.tmp 15)), 135, none⟩,
      ⟨some 16, (.extract (.tmp 10) 0), 119, none⟩,
      ⟨some 17, (.extract (.tmp 10) 1), 119, none⟩,
      ⟨some 6, (.assign (.tmp 16)), 119, none⟩,
      ⟨some 7, (.assign (.tmp 17)), 119, none⟩])
    (.seq (.reg [] [⟨some 18, (.move (.tmp 6)), 119, none⟩,
      ⟨some 19, (.convert 119 106 (.tmp 18)), 106, none⟩,
      ⟨some 20, (.move (.tmp 7)), 119, none⟩,
      ⟨some 21, (.convert 119 106 (.tmp 20)), 106, none⟩,
      ⟨some 4, (.assign (.tmp 19)), 106, none⟩,
      ⟨some 5, (.assign (.tmp 21)), 106, none⟩])
    .ret))
    .skip)
    (.seq (.reg [] [⟨some 23, (.move (.tmp 0)), 106, none⟩,
      ⟨some 24, (.move (.tmp 1)), 106, none⟩,
      ⟨some 25, (.call ⟨(.value (.func 132)), #[(.tmp 23), (.tmp 24)], #[121, 121]⟩), 137, none⟩,
      ⟨some 22, (.move (.tmp 25)), 137, none⟩,
      ⟨some 26, (.extract (.tmp 22) 0), 121, none⟩,
      ⟨some 27, (.extract (.tmp 22) 1), 121, none⟩,
      ⟨some 8, (.assign (.tmp 26)), 121, none⟩,
      ⟨some 9, (.assign (.tmp 27)), 121, none⟩])
    (.seq (.reg [] [⟨some 28, (.move (.tmp 8)), 121, none⟩,
      ⟨some 29, (.move (.tmp 9)), 121, none⟩,
      ⟨some 4, (.assign (.tmp 28)), 106, none⟩,
      ⟨some 5, (.assign (.tmp 29)), 106, none⟩])
    .ret))))
theorem C116 {args : List AV} {r : AV} (hn : args.length ≤ 30) (h : vc Try.prog T [] A116 (Fin T [(.tmp 4), (.tmp 5)] r) ⟨envOf 0 args, []⟩) : CallP Try.prog 116 args r :=
  callP_of tok mixed Try.func116 (by kernel_rfl) (by kernel_rfl) (by kernel_rfl : Try.f116.ntmps = 30) (by kernel_rfl : Try.f116.body.bind (strip 30 (fun _ => [])) = some A116) hn h
def A132 : ACode :=
  (.seq (.reg [] [⟨some 4, (.assign (.const (.int .u64 0))), 121, none⟩,
      ⟨some 5, (.assign (.const (.int .u64 0))), 121, none⟩])
    (.seq (.reg [] [⟨some 14, (.move (.tmp 0)), 121, none⟩,
      ⟨some 15, (.binOp .and 121 (.tmp 14) (.const (.int .u64 4294967295)) 121), 121, none⟩,
      ⟨some 6, (.assign (.tmp 15)), 121, none⟩])
    (.seq (.reg [] [⟨some 16, (.move (.tmp 0)), 121, none⟩,
      ⟨some 17, (.binOp .shr 121 (.tmp 16) (.const (.int .u64 32)) 106), 121, none⟩,
      ⟨some 7, (.assign (.tmp 17)), 121, none⟩])
    (.seq (.reg [] [⟨some 18, (.move (.tmp 1)), 121, none⟩,
      ⟨some 19, (.binOp .and 121 (.tmp 18) (.const (.int .u64 4294967295)) 121), 121, none⟩,
      ⟨some 8, (.assign (.tmp 19)), 121, none⟩])
    (.seq (.reg [] [⟨some 20, (.move (.tmp 1)), 121, none⟩,
      ⟨some 21, (.binOp .shr 121 (.tmp 20) (.const (.int .u64 32)) 106), 121, none⟩,
      ⟨some 9, (.assign (.tmp 21)), 121, none⟩])
    (.seq (.reg [] [⟨some 22, (.move (.tmp 6)), 121, none⟩,
      ⟨some 23, (.move (.tmp 8)), 121, none⟩,
      ⟨some 24, (.binOp .mul 121 (.tmp 22) (.tmp 23) 121), 121, none⟩,
      ⟨some 10, (.assign (.tmp 24)), 121, none⟩])
    (.seq (.reg [] [⟨some 25, (.move (.tmp 7)), 121, none⟩,
      ⟨some 26, (.move (.tmp 8)), 121, none⟩,
      ⟨some 27, (.binOp .mul 121 (.tmp 25) (.tmp 26) 121), 121, none⟩,
      ⟨some 28, (.move (.tmp 10)), 121, none⟩,
      ⟨some 29, (.binOp .shr 121 (.tmp 28) (.const (.int .u64 32)) 106), 121, none⟩,
      ⟨some 30, (.binOp .add 121 (.tmp 27) (.tmp 29) 121), 121, none⟩,
      ⟨some 11, (.assign (.tmp 30)), 121, none⟩])
    (.seq (.reg [] [⟨some 31, (.move (.tmp 11)), 121, none⟩,
      ⟨some 32, (.binOp .and 121 (.tmp 31) (.const (.int .u64 4294967295)) 121), 121, none⟩,
      ⟨some 12, (.assign (.tmp 32)), 121, none⟩])
    (.seq (.reg [] [⟨some 33, (.move (.tmp 11)), 121, none⟩,
      ⟨some 34, (.binOp .shr 121 (.tmp 33) (.const (.int .u64 32)) 106), 121, none⟩,
      ⟨some 13, (.assign (.tmp 34)), 121, none⟩])
    (.seq (.reg [] [⟨some 35, (.move (.tmp 12)), 121, none⟩,
      ⟨some 36, (.move (.tmp 6)), 121, none⟩,
      ⟨some 37, (.move (.tmp 9)), 121, none⟩,
      ⟨some 38, (.binOp .mul 121 (.tmp 36) (.tmp 37) 121), 121, none⟩,
      ⟨some 39, (.binOp .add 121 (.tmp 35) (.tmp 38) 121), 121, none⟩,
      ⟨some 12, (.assign (.tmp 39)), 121, none⟩])
    (.seq (.reg [] [⟨some 40, (.move (.tmp 7)), 121, none⟩,
      ⟨some 41, (.move (.tmp 9)), 121, none⟩,
      ⟨some 42, (.binOp .mul 121 (.tmp 40) (.tmp 41) 121), 121, none⟩,
      ⟨some 43, (.move (.tmp 13)), 121, none⟩,
      ⟨some 44, (.binOp .add 121 (.tmp 42) (.tmp 43) 121), 121, none⟩,
      ⟨some 45, (.move (.tmp 12)), 121, none⟩,
      ⟨some 46, (.binOp .shr 121 (.tmp 45) (.const (.int .u64 32)) 106), 121, none⟩,
      ⟨some 47, (.binOp .add 121 (.tmp 44) (.tmp 46) 121), 121, none⟩,
      ⟨some 4, (.assign (.tmp 47)), 121, none⟩])
    (.seq (.reg [] [⟨some 48, (.move (.tmp 0)), 121, none⟩,
      ⟨some 49, (.move (.tmp 1)), 121, none⟩,
      ⟨some 50, (.binOp .mul 121 (.tmp 48) (.tmp 49) 121), 121, none⟩,
      ⟨some 5, (.assign (.tmp 50)), 121, none⟩])
    .ret))))))))))))
theorem C132 {args : List AV} {r : AV} (hn : args.length ≤ 51) (h : vc Try.prog T [] A132 (Fin T [(.tmp 4), (.tmp 5)] r) ⟨envOf 0 args, []⟩) : CallP Try.prog 132 args r :=
  callP_of tok mixed Try.func132 (by kernel_rfl) (by kernel_rfl) (by kernel_rfl : Try.f132.ntmps = 51) (by kernel_rfl : Try.f132.body.bind (strip 51 (fun _ => [])) = some A132) hn h

end Go.Proofs.Ytnpkaemlidifgaa
end

section
/- Functions of the cut as the value layer reads them. (written by gen.py) -/
set_option maxRecDepth 20000
namespace Go.Proofs.Ytnpkaemlidifgaa
open Go.Abs Go

def A102 : ACode :=
  (.seq (.reg [] [⟨some 4, (.assign (.const (.slice none 0 0))), 23, none⟩])
    (.seq (.seq (.reg [] [⟨some 9, (.move (.tmp 1)), 3, none⟩,
      ⟨some 10, (.binOp .lss 3 (.tmp 9) (.const (.int .i64 0)) 3), 4, none⟩])
    (.cond (.tmp 10)
    (.reg [] [⟨some 11, (.makeInterface 9 (.const (.string ⟨#[99, 97, 110, 110, 111, 116, 32, 98, 101, 32, 110, 101, 103, 97, 116, 105, 118, 101]⟩))), 20, none⟩,
      ⟨none, (.panic (.tmp 11)), 0, none⟩])
    .skip))
    (.seq (.reg [] [⟨some 13, (.move (.tmp 0)), 23, none⟩,
      ⟨some 14, (.call ⟨(.builtin .len), #[(.tmp 13)], #[23]⟩), 3, none⟩,
      ⟨some 15, (.convert 3 106 (.tmp 14)), 106, none⟩,
      ⟨some 16, (.move (.tmp 1)), 3, none⟩,
      ⟨some 17, (.convert 3 106 (.tmp 16)), 106, none⟩,
      ⟨some 18, (.call ⟨(.value (.func 116)), #[(.tmp 15), (.tmp 17)], #[106, 106]⟩), 122, none⟩,
      ⟨some 12, (.move (.tmp 18)), 122, none⟩,
      ⟨some 19, (.extract (.tmp 12) 0), 106, none⟩,
      ⟨some 20, (.extract (.tmp 12) 1), 106, none⟩,
      ⟨some 5, (.assign (.tmp 19)), 106, none⟩,
      ⟨some 6, (.assign (.tmp 20)), 106, none⟩])
    (.seq (.seq (.reg [] [⟨some 21, (.move (.tmp 5)), 106, none⟩,
      ⟨some 22, (.binOp .gtr 106 (.tmp 21) (.const (.int .u64 0)) 106), 4, none⟩,
      ⟨some 23, (.move (.tmp 22)), 4, none⟩,
      ⟨some 24, (.move (.tmp 6)), 106, some (23, false)⟩,
      ⟨some 25, (.binOp .gtr 106 (.tmp 24) (.const (.int .u64 9223372036854775807)) 106), 4, some (23, false)⟩,
      ⟨some 26, (.pick (.tmp 23) (.const (.bool true)) (.tmp 25)), 4, none⟩])
    (.cond (.tmp 26)
    (.reg [] [⟨some 27, (.makeInterface 9 (.const (.string ⟨#[116, 104, 101, 32, 114, 101, 115, 117, 108, 116, 32, 111, 102, 32, 40, 108, 101, 110, 40, 120, 41, 32, 42, 32, 99, 111, 117, 110, 116, 41, 32, 111, 118, 101, 114, 102, 108, 111, 119, 115]⟩))), 20, none⟩,
      ⟨none, (.panic (.tmp 27)), 0, none⟩])
    .skip))
    (.seq (.reg [] [⟨some 28, (.move (.tmp 6)), 106, none⟩,
      ⟨some 29, (.convert 106 3 (.tmp 28)), 3, none⟩,
      ⟨some 30, (.makeSlice 23 (.tmp 29) (.tmp 29)), 23, none⟩,
      ⟨some 7, (.assign (.tmp 30)), 23, none⟩])
    (.seq (.reg [] [⟨some 31, (.move (.tmp 7)), 23, none⟩,
      ⟨some 32, (.move (.tmp 0)), 23, none⟩,
      ⟨some 33, (.call ⟨(.builtin .copy), #[(.tmp 31), (.tmp 32)], #[23, 23]⟩), 3, none⟩,
      ⟨some 8, (.assign (.tmp 33)), 3, none⟩])
    (.seq (.block 0 (.loop (.seq (.seq (.reg [] [⟨some 34, (.move (.tmp 8)), 3, none⟩,
      ⟨some 35, (.move (.tmp 7)), 23, none⟩,
      ⟨some 36, (.call ⟨(.builtin .len), #[(.tmp 35)], #[23]⟩), 3, none⟩,
      ⟨some 37, (.binOp .lss 3 (.tmp 34) (.tmp 36) 3), 4, none⟩])
    (.cond (.tmp 37)
    .skip
    (.exit 0)))
    (.block 1 (.draw [] [⟨some 38, (.move (.tmp 8)), 3, none⟩,
      ⟨some 39, (.move (.tmp 7)), 23, none⟩,
      ⟨some 40, (.move (.tmp 8)), 3, none⟩,
      ⟨some 41, (.slice 23 (.tmp 39) (some (.tmp 40)) none none), 23, none⟩,
      ⟨some 42, (.move (.tmp 7)), 23, none⟩,
      ⟨some 43, (.move (.tmp 8)), 3, none⟩,
      ⟨some 44, (.slice 23 (.tmp 42) none (some (.tmp 43)) none), 23, none⟩,
      ⟨some 45, (.call ⟨(.builtin .copy), #[(.tmp 41), (.tmp 44)], #[23, 23]⟩), 3, none⟩,
      ⟨some 46, (.binOp .add 3 (.tmp 38) (.tmp 45) 3), 3, none⟩,
      ⟨some 8, (.assign (.tmp 46)), 3, none⟩] [(0, 1), (0, 2), (1, 2), (0, 3), (0, 4), (1, 4), (2, 4), (3, 4), (0, 5), (1, 5), (2, 5), (3, 5), (4, 5), (0, 6), (1, 6), (2, 6), (3, 6), (0, 7)])))))
    (.seq (.reg [] [⟨some 47, (.move (.tmp 7)), 23, none⟩,
      ⟨some 4, (.assign (.tmp 47)), 23, none⟩])
    .ret))))))))
theorem CO102 {args : List AV} {sz : Nat} {els : List AV} (hn : args.length ≤ 48) (h : vc Try.prog T [] A102 (FinO [(.tmp 4)] sz els) ⟨envOf 0 args, []⟩) : CallO Try.prog 102 args sz els :=
  callO_of tok mixed Try.func102 (by kernel_rfl) (by kernel_rfl) (by kernel_rfl : Try.f102.ntmps = 48) (by kernel_rfl : Try.f102.body.bind (strip 48 (fun _ => [])) = some A102) hn h

end Go.Proofs.Ytnpkaemlidifgaa
end

section
/- Contracts: a product of which one is one; slices.Repeat of one number. -/
namespace Go.Proofs.Ytnpkaemlidifgaa
open Go.Abs Go
set_option maxRecDepth 20000
set_option maxHeartbeats 2000000
attribute [local irreducible] PreK CondK CallK CallG CallX LoopK
attribute [local simp] avsEq avEq akind teq vkind vEq T_106

def uv (n : Int) : AV := .raw (.int .u64 n)
theorem Mul64_c (n : Nat) (h : n ≤ 1000) : CallP Try.prog 132 [uv 1, uv n] (.tup [uv 0, uv n]) := by
  refine C132 (by simp) ?_
  have h1 : n &&& 4294967295 = n := by
    have := Nat.and_two_pow_sub_one_eq_mod n 32
    rw [show (2 : Nat) ^ 32 - 1 = 4294967295 by decide] at this
    rw [this]
    exact Nat.mod_eq_of_lt (by omega)
  have h2 : Int.fdiv (n : Int) 4294967296 = 0 := by
    rw [Int.fdiv_eq_ediv_of_nonneg _ (by decide)]
    omega
  simp [A132, uv]
  repeat (refine PreK.intro (by first | omega | (intros; first | omega | (refine ⟨by omega, ?_⟩; simp_all; done) | (simp_all; done) | (simp_all; omega))) fun _ => ?_; (try simp [h1, h2]))
theorem Mul_c (n : Nat) (h : n ≤ 1000) : CallP Try.prog 116 [uv 1, uv n] (.tup [uv 0, uv n]) := by
  refine C116 (by simp) ?_
  have := Mul64_c n h
  simp only [uv] at this ⊢
  simp [A116]
  refine CondK.intro (fun h1 => ?_) (fun h1 => ?_)
  · cases h1
  · try simp 
    repeat' (first
      | (refine CallX.pure (this) (by simp) (by simp) ?_; try simp )
      | (refine CallK.intro (this) (by simp) (by simp) ?_; try simp )
      | (refine CallG.intro (fun _ => this) (by simp) (by simp) ?_; try simp )
      | ((with_reducible refine PreK.intro ?_ ?_); (next => (first | omega | (intros; first | omega | (refine ⟨by omega, ?_⟩; repeat (first | assumption | constructor)) | assumption))); intro _; try simp )
      | fail)
/-- A row of one number, made by taking what is there twice, again and again. -/
theorem repeat_o (k : Bool) (v : Int) (n : Nat) (h0 : 0 < n) (h : n ≤ 1000) : CallO Try.prog 102 [.seq 1 [iv v] k, iv (n : Int)] 1 (List.replicate n (iv v)) := by
  refine CO102 (by simp) ?_
  have hm := Mul_c n h
  simp only [uv] at hm
  simp [A102]
  repeat (refine PreK.intro (by first | omega | (intros; first | omega | (refine ⟨by omega, ?_⟩; simp_all; done) | (simp_all; done) | (simp_all; omega))) fun _ => ?_; (try simp ))
  refine CondK.intro (fun h1 => ?_) (fun h1 => ?_)
  · simp at h1; omega
  · repeat (refine PreK.intro (by first | omega | (intros; first | omega | (refine ⟨by omega, ?_⟩; simp_all; done) | (simp_all; done) | (simp_all; omega))) fun _ => ?_; (try simp ))
    have w1 : IntKind.u64.wrap 1 = 1 := by decide
    have w2 : IntKind.u64.wrap (n : Int) = n := wrap_in (by simp only [inR]; omega)
    have w3 : IntKind.i64.wrap (n : Int) = n := wrap_in (by simp only [inR]; omega)
    repeat (refine PreK.intro (by first | omega | (intros; first | omega | (refine ⟨by omega, ?_⟩; simp_all; done) | (simp_all; done) | (simp_all; omega))) fun _ => ?_; (try simp [w1, w2, w3]))
    rw [w1, w2]
    try simp [w1, w2, w3]
    repeat' (first
      | (refine CallX.pure (hm) (by simp) (by simp) ?_; try simp [w1, w2, w3])
      | (refine CallK.intro (hm) (by simp) (by simp) ?_; try simp [w1, w2, w3])
      | (refine CallG.intro (fun _ => hm) (by simp) (by simp) ?_; try simp [w1, w2, w3])
      | ((with_reducible refine PreK.intro ?_ ?_); (next => (first | omega | (intros; first | omega | (refine ⟨by omega, ?_⟩; repeat (first | assumption | constructor)) | assumption))); intro _; try simp [w1, w2, w3])
      | fail)
    refine CondK.intro (fun h2 => ?_) (fun h2 => ?_)
    · simp at h2; omega
    · repeat (refine PreK.intro (by first | omega | (intros; first | omega | (refine ⟨by omega, ?_⟩; simp_all; done) | (simp_all; done) | (simp_all; omega))) fun _ => ?_; (try simp [w1, w2, w3]))
      have t1 : List.take n [AV.raw (Value.int IntKind.i64 v)] = [AV.raw (Value.int IntKind.i64 v)] := List.take_of_length_le h0
      have t2 : min n 1 = 1 := by omega
      have t3 : min 1 n = 1 := by omega
      refine LoopK.by (ι := Nat) (fun k => ⟨[(8, iv k), (7, .sl 30 1 0 n)], [(30, some ⟨1, List.replicate k (iv v) ++ List.replicate (n - k) (iv 0), 1, false⟩)]⟩) (fun k => n - k) (fun k => 1 ≤ k ∧ k ≤ n) 1 ⟨Nat.le_refl 1, h0⟩ (by simp [t1, t2, t3]) ?_
      intro k Q' ⟨k1, k2⟩ hq he hr
      repeat (refine PreK.intro (by first | omega | (intros; first | omega | (refine ⟨by omega, ?_⟩; simp_all; done) | (simp_all; done) | (simp_all; omega))) fun _ => ?_; (try simp ))
      refine CondK.intro (fun h3 => ?_) (fun h3 => ?_)
      · simp at h3
        repeat (refine PreK.intro (by first | omega | (intros; first | omega | (refine ⟨by omega, ?_⟩; simp_all; done) | (simp_all; done) | (simp_all; omega))) fun _ => ?_; (try simp [h3]))
        have e1 : min k (n - k) = min (n - k) k := Nat.min_comm _ _
        have e2 : List.drop (k + min (n - k) k) (List.replicate k (AV.raw (Value.int IntKind.i64 v)) ++ List.replicate (n - k) (AV.raw (Value.int IntKind.i64 0))) = List.replicate (n - (k + min (n - k) k)) (AV.raw (Value.int IntKind.i64 0)) := by
          rw [List.drop_append, List.drop_replicate, List.drop_replicate, List.length_replicate, show k - (k + min (n - k) k) = 0 by omega, show n - k - (k + min (n - k) k - k) = n - (k + min (n - k) k) by omega]
          simp
        exact hq (k + min (n - k) k) _ ⟨by omega, by omega⟩ (by omega) (by simp [e1, e2])
      · simp at h3
        have e : k = n := by omega
        subst e
        try simp 
        apply he
        repeat (refine PreK.intro (by first | omega | (intros; first | omega | (refine ⟨by omega, ?_⟩; simp_all; done) | (simp_all; done) | (simp_all; omega))) fun _ => ?_; (try simp ))
end Go.Proofs.Ytnpkaemlidifgaa
end

section
/- Contracts: the readings that copies fix; the changes of readings. -/
namespace Go.Proofs.Ytnpkaemlidifgaa
open Go.Abs Go
set_option maxRecDepth 20000
set_option maxHeartbeats 2000000
attribute [local irreducible] PreK CondK CallK CallG CallX LoopK
attribute [local simp] avsEq avEq akind teq vkind vEq

theorem fixed_c (t : List (List Int)) (par ats : List Int) (p : Nat) (ht : Rds t) (hx : Treed par ats) (hl : ats.length = t.length) (hp : p < wid t) :
    CallP Try.prog 93 [rdsV t, treeV par ats, iv p] (match fixF (List.replicate par.length (-1)) (prs t ats p) with | some o => .tup [ints o, bv true] | none => .tup [ints [], bv false]) := by
  refine C93 (by simp) ?_
  have hn := ht.num
  have htop := hx.top
  have hpos := hx.pos
  have hrp := repeat_o false (-1) par.length hpos (by omega)
  have hcl := colM_len t p
  generalize hR : fixF (List.replicate par.length (-1)) (prs t ats p) = R
  simp [A93]
  repeat (refine PreK.intro (by first | omega | (intros; first | omega | (refine ⟨by omega, ?_⟩; simp_all; done) | (simp_all; done) | (simp_all; omega))) fun _ => ?_; (try simp ))
  refine CallX.own (by simpa using hrp) (by simp) (by simp) ?_
  try simp 
  repeat (refine PreK.intro (by first | omega | (intros; first | omega | (refine ⟨by omega, ?_⟩; simp_all; done) | (simp_all; done) | (simp_all; omega))) fun _ => ?_; (try simp ))
  refine LoopK.by (ι := Nat × List Int) (fun x => ⟨[(19, iv x.1), (18, iv ats.length), (17, ints ats), (0, rdsV t), (2, iv p), (8, .sl 15 1 0 par.length)], [(15, some ⟨1, x.2.map iv, 1, false⟩)]⟩) (fun x => ats.length - x.1)
    (fun x => x.1 ≤ ats.length ∧ x.2.length = par.length ∧ fixF x.2 ((prs t ats p).drop x.1) = R) (0, List.replicate par.length (-1)) ⟨Nat.zero_le _, by simp, by simpa using hR⟩ (by simp) ?_
  intro ⟨i, own⟩ Q' ⟨hi, hol, hc⟩ hq he hr'
  dsimp only at hi hol hc
  try simp 
  refine CondK.intro (fun h1 => ?_) (fun h1 => ?_)
  · simp at h1
    have hit : i < t.length := by omega
    have hrow := ht.row hit
    have hpl : p < (el t i).length := by omega
    have hat := hx.atsR _ (el_mem_of ats i h1)
    obtain ⟨m, hm⟩ : ∃ m : Nat, el ats i = (m : Int) := ⟨(el ats i).toNat, by omega⟩
    have hml : m < own.length := by omega
    have hpd : (prs t ats p).drop i = (el ats i, el (el t i) p) :: (prs t ats p).drop (i + 1) := by
      unfold prs
      rw [zip_drop h1 (by omega), el_col hit]
    rw [hpd, fixF, hm, Int.toNat_natCast] at hc
    by_cases h2 : 0 ≤ el own m
    · repeat (refine PreK.intro (by first | omega | (intros; first | omega | (refine ⟨by omega, ?_⟩; simp_all; done) | (simp_all; done) | (simp_all; omega))) fun _ => ?_; (try simp [h1, hit, hpl, hm, hml, h2]))
      refine CondK.intro (fun h3 => ?_) (fun h3 => ?_)
      · simp at h3
        rw [if_pos ⟨h2, h3⟩] at hc
        subst hc
        try simp 
        apply hr'
        try simp 
      · simp at h3
        rw [if_neg (by simp [h3])] at hc
        repeat (refine PreK.intro (by first | omega | (intros; first | omega | (refine ⟨by omega, ?_⟩; simp_all; done) | (simp_all; done) | (simp_all; omega))) fun _ => ?_; (try simp [h1, hit, hpl, hm, hml]))
        exact hq (i + 1, own.set m (el (el t i) p)) _ ⟨by dsimp only; omega, by simpa using hol, hc⟩ (by dsimp only; omega) (by simp [List.map_set])
    · rw [if_neg (fun h => h2 h.1)] at hc
      repeat (refine PreK.intro (by first | omega | (intros; first | omega | (refine ⟨by omega, ?_⟩; simp_all; done) | (simp_all; done) | (simp_all; omega))) fun _ => ?_; (try simp [h1, hit, hpl, hm, hml, h2]))
      refine CondK.ff ?_
      try simp 
      repeat (refine PreK.intro (by first | omega | (intros; first | omega | (refine ⟨by omega, ?_⟩; simp_all; done) | (simp_all; done) | (simp_all; omega))) fun _ => ?_; (try simp [h1, hit, hpl, hm, hml]))
      exact hq (i + 1, own.set m (el (el t i) p)) _ ⟨by dsimp only; omega, by simpa using hol, hc⟩ (by dsimp only; omega) (by simp [List.map_set])
  · simp at h1
    rw [List.drop_eq_nil_of_le (by simp [prs]; omega)] at hc
    simp only [fixF] at hc
    subst hc
    try simp 
    apply he
    repeat (refine PreK.intro (by first | omega | (intros; first | omega | (refine ⟨by omega, ?_⟩; simp_all; done) | (simp_all; done) | (simp_all; omega))) fun _ => ?_; (try simp [hol]))
    exact List.take_of_length_le (by simp [hol])
theorem changes_c (par ats rd : List Int) (hx : Treed par ats) (hr : rd.length = par.length) : CallP Try.prog 61 [treeV par ats, ints rd] (iv (chgM par rd)) := by
  refine C61 (by simp) ?_
  have htop := hx.top
  have hpos := hx.pos
  generalize hR : chgM par rd = R
  unfold chgM at hR
  simp [A61]
  refine LoopK.by (ι := Nat) (fun i => ⟨[(6, iv ((i : Int) + 1)), (5, iv (chg (pf par) (el rd) i)), (1, ints rd), (2, .pt 2 1 0 0)], [(2, some ⟨2, [treeV par ats], 1, true⟩)]⟩) (fun i => par.length - i) (fun i => i + 1 ≤ par.length) 0 (by omega) (by simp [chg]) ?_
  intro i Q' hi hq he hr'
  have hle := chg_le (pf par) (el rd) i
  have hnn := chg_nn (pf par) (el rd) i
  try simp 
  refine CondK.intro (fun h1 => ?_) (fun h1 => ?_)
  · simp at h1
    have h2 : i + 1 < par.length := by omega
    have h2' : i + 1 < rd.length := by omega
    have hpf := hx.pfE (show 1 ≤ i + 1 by omega) h2
    have hlt := pf_lt par (i + 1) (by omega)
    have h3 : pf par (i + 1) < rd.length := by omega
    have h4 : el par (i + 1) = ((pf par (i + 1) : Nat) : Int) := hpf.2.symm
    have hq' := hq (i + 1)
    simp only [chg, dd] at hq'
    generalize pf par (i + 1) = m at h3 h4 hq'
    repeat (refine PreK.intro (by first | omega | (intros; first | omega | (refine ⟨by omega, ?_⟩; simp_all; done) | (simp_all; done) | (simp_all; omega))) fun _ => ?_; (try simp [h2, h2', h3, h4]))
    refine CondK.intro (fun h5 => ?_) (fun h5 => ?_)
    · simp at h5
      rw [if_neg h5] at hq'
      repeat (refine PreK.intro (by first | omega | (intros; first | omega | (refine ⟨by omega, ?_⟩; simp_all; done) | (simp_all; done) | (simp_all; omega))) fun _ => ?_; (try simp ))
      exact hq' _ (by omega) (by omega) (by simp)
    · simp at h5
      rw [if_pos h5] at hq'
      repeat (refine PreK.intro (by first | omega | (intros; first | omega | (refine ⟨by omega, ?_⟩; simp_all; done) | (simp_all; done) | (simp_all; omega))) fun _ => ?_; (try simp ))
      exact hq' _ (by omega) (by omega) (by simp)
  · simp at h1
    have : i = par.length - 1 := by omega
    subst this
    rw [hR]
    try simp 
    apply he
    try simp 
end Go.Proofs.Ytnpkaemlidifgaa
end

section
/- The library's walk through a list from its end on, as what is ranged over. -/
namespace Go.Proofs.Ytnpkaemlidifgaa
open Go.Abs Go
open Go.RowKit Go.Shelf
attribute [local go_sem] Oper.semAt_some

/-- What is handed out: the places from the last one on, and what stands there. -/
def backL (l : List Int) : List (List Value) := (List.range l.length).map fun k => [.int .i64 ((l.length - 1 - k : Nat) : Int), .int .i64 (el l (l.length - 1 - k))]
theorem backL_len (l : List Int) : (backL l).length = l.length := by simp [backL]
theorem backL_get (l : List Int) (k : Nat) (h : k < l.length) : (backL l).getD k [] = [.int .i64 ((l.length - 1 - k : Nat) : Int), .int .i64 (el l (l.length - 1 - k))] := by
  simp [backL, List.getD_eq_getElem?_getD, h]

set_option maxRecDepth 100000 in
set_option maxHeartbeats 2000000 in
theorem backward_in (l : Nat) (Bs o0 : Nat) (p : Option Addr) (b off len cap : Nat) (hp : len ≠ 0 → p = some ⟨b, off, none⟩) (zs : List Int) (hz : zs.length = len) (hreach : len ≤ 1000) (X : Nat → Prop) (w : World)
    (J : Nat → World → Prop) (Jx : World → Prop)
    (hc : ∀ k W, J k W → W.cell? ⟨Bs, o0, none⟩ = some (.slice p len cap) ∧ ∀ j, j < len → W.cell? ⟨b, off + j, none⟩ = some (.int .i64 (el zs j)))
    (hY : ∀ k W, k < len → J k W → YieldAt Fence.wide 0 Try.prog l #[.int .i64 ((len - 1 - k : Nat) : Int), .int .i64 (el zs (len - 1 - k))] W fun e W' => (e = .returned (.bool true) ∧ J (k + 1) W') ∨ (e = .returned (.bool false) ∧ Jx W'))
    (h0 : J 0 w) :
    CallsIn Fence.wide 1 Try.prog 103 #[.func (.yield l) #[] #[], .pointer (some ⟨Bs, o0, none⟩)] w fun e W' => (∃ v, e = .returned v) ∧ (J len W' ∨ Jx W') := by
  refine callsIn_of_wp Try.func103 rfl trivial ?_ rfl
  simp only [Try.ntmps103, List.size_toArray, List.length_cons, List.length_nil, Nat.reduceAdd, Nat.reduceSub, Array.replicate_succ, Array.replicate_zero, List.push_toArray, List.append_toArray, List.nil_append, List.cons_append]
  obtain ⟨hb0, hc0⟩ := hc 0 w h0
  gi_wp2
  gi_loopw [3] (fun i wr => ∃ k : Nat, k ≤ len ∧ i = .int .i64 ((len : Int) - 1 - k) ∧ J k wr)
    (fun i _ => (intOf i + 1).toNat)
  case atStart => exact ⟨0, Nat.zero_le _, by simp, h0⟩
  case round =>
    obtain ⟨k, hk, rfl, hJs⟩ := hrel
    obtain ⟨hb1, hc1⟩ := hc k wr hJs
    by_cases hlt : k < len
    · obtain rfl : p = _ := hp (by omega)
      obtain ⟨fn, tmps, assign, body, hy, hR⟩ := hY k wr hlt hJs
      obtain ⟨n, hn⟩ : ∃ n : Nat, n + k + 1 = len := ⟨len - 1 - k, by omega⟩
      have e : (len : Int) - 1 - k = (n : Int) := by omega
      have e2 : len - 1 - k = n := by omega
      rw [e2] at hy
      clear e2
      have hcx := hc1 n (by omega)
      have hnl : n < len := by omega
      rw [e]
      clear e
      gi_wp2
      refine hR.mono ?_
      rintro e W3 (⟨rfl, hJ3⟩ | ⟨rfl, hJx3⟩)
      · gi_wp2
        go_roundw
        case rel => exact ⟨k + 1, by omega, by simp; omega, hJ3⟩
        case measure => simp [intOf]
      · gi_wp2
        refine bodyPost_ret (results_none rfl _ _ _) rfl ?_
        exact ⟨⟨_, rfl⟩, .inr hJx3⟩
    · obtain rfl : k = len := by omega
      have e : (k : Int) - 1 - k = -1 := by omega
      rw [e]
      gi_wp2
      go_end0
      exact ⟨⟨_, rfl⟩, .inl hJs⟩
theorem backward_it (l : List Int) (hl : l.length ≤ 1000) : IterP Try.prog 103 [.ipt (ints l) 0] (backL l) := by
  refine ⟨⟨_, Try.func103, by decide +kernel, by simp [Try.f103]⟩, fun y w X vs hX hlen hargs J Jx hJg hJxg hkeep hY h0 => ?_⟩
  obtain ⟨v0, rfl⟩ : ∃ v0, vs = #[v0] := by
    cases vs with
    | mk l =>
      match l, hlen with
      | [a], _ => exact ⟨a, rfl⟩
  have h1 : Rep w X Mu.none (.ipt (ints l) 0) v0 := hargs 0 (by simp)
  rw [backL_len] at hY
  have hY2 : ∀ k W, k < l.length → J k W → YieldAt Fence.wide 0 Try.prog y #[.int .i64 ((l.length - 1 - k : Nat) : Int), .int .i64 (el l (l.length - 1 - k))] W fun e W' => (e = .returned (.bool true) ∧ J (k + 1) W') ∨ (e = .returned (.bool false) ∧ Jx W') := by
    intro k W hk hJ
    have := hY k W hk hJ
    rw [backL_get l k hk] at this
    exact this
  rw [backL_len]
  cases h1 with
  | @ipt _ _ _ b off c e0 fr hXb hb hfit hone h2 =>
    have hfit' : off < c.size := by simp only [ints, AV.width] at hfit; omega
    have hcell : ∀ k W, J k W → W.cell? ⟨b, off, none⟩ = some (c.getD off undef) := by
      intro k W hJ
      have := hkeep k W hJ b (lt_of_heap hb) hXb
      exact cell_heap (this.trans hb) hfit'
    have h3 : Rep w X Mu.none (.seq 1 (l.map iv) false) (c.getD off undef) := h2
    refine callsIn_wide.2 ((callsIn_wide (n := 1)).1 ?_)
    generalize hv : c.getD off undef = u at h3 hcell
    generalize hm : l.map iv = m at h3
    have hml : m.length = l.length := by rw [← hm]; simp
    cases h3 with
    | nil =>
      have h00 : l.length = 0 := by simpa using hml.symm
      have := backward_in y b off _ 0 0 l.length 0 (fun h => absurd h00 h) l rfl hl X w J Jx (fun k W hJ => ⟨by rw [hcell k W hJ, h00], fun j hj => by omega⟩) hY2 h0
      exact this
    | @seq _ _ _ _ b2 off2 cap c2 e2 fr2 hX2 hb2 hcap hfull hbig hfit2 hw2 hone2 hr2 =>
      have hcells : ∀ j, j < l.length → c2.getD (off2 + j) undef = .int .i64 (el l j) := by
        intro j hj
        have := hr2 j (by omega)
        rw [← hm] at this
        have e : (l.map iv).getD j .junk = iv (el l j) := nth_map iv l j hj
        rw [e] at this
        simp only [iv, elemVal, Nat.mul_one] at this
        exact this.one.1
      have := backward_in y b off _ b2 off2 l.length cap (fun _ => rfl) l rfl hl X w J Jx (fun k W hJ => ⟨by rw [hcell k W hJ, hml], fun j hj => by
        have hk := hkeep k W hJ b2 (lt_of_heap hb2) hX2
        rw [cell_heap (hk.trans hb2) (by omega), hcells j hj]⟩) hY2 h0
      exact this
theorem Backward_c (l : List Int) : CallP Try.prog 94 [ints l] (.fn 103 [] [.ipt (ints l) 0]) := by
  refine C94 (by simp) ?_
  simp [A94]
end Go.Proofs.Ytnpkaemlidifgaa
end

section
/- Functions of the cut as the value layer reads them. (written by gen.py) -/
set_option maxRecDepth 20000
namespace Go.Proofs.Ytnpkaemlidifgaa
open Go.Abs Go

def A60 : RCode :=
  (.seq (.code (.reg [] [⟨some 4, (.box 25 (.tmp 1)), 0, none⟩,
      ⟨some 6, (.assign (.const (.slice none 0 0))), 23, none⟩,
      ⟨some 7, (.assign (.const (.bool false))), 4, none⟩]))
    (.seq (.code (.reg [] [⟨some 24, (.move (.tmp 0)), 22, none⟩,
      ⟨some 25, (.load 25 (.tmp 4)), 25, none⟩,
      ⟨some 26, (.move (.tmp 2)), 3, none⟩,
      ⟨some 27, (.call ⟨(.value (.func 93)), #[(.tmp 24), (.tmp 25), (.tmp 26)], #[22, 25, 3]⟩), 69, none⟩,
      ⟨some 23, (.move (.tmp 27)), 69, none⟩,
      ⟨some 28, (.extract (.tmp 23) 0), 23, none⟩,
      ⟨some 29, (.extract (.tmp 23) 1), 4, none⟩,
      ⟨some 8, (.alloc 23), 0, none⟩,
      ⟨none, (.store 23 (.tmp 8) (.tmp 28)), 0, none⟩,
      ⟨some 9, (.assign (.tmp 29)), 4, none⟩]))
    (.seq (.code (.seq (.reg [] [⟨some 30, (.move (.tmp 9)), 4, none⟩,
      ⟨some 31, (.unOp .not 4 (.tmp 30)), 4, none⟩])
    (.cond (.tmp 31)
    (.seq (.reg [] [⟨some 6, (.assign (.const (.slice none 0 0))), 23, none⟩,
      ⟨some 7, (.assign (.const (.bool false))), 4, none⟩])
    .ret)
    .skip)))
    (.seq (.code (.reg [] [⟨some 32, (.load 23 (.tmp 8)), 23, none⟩,
      ⟨some 33, (.call ⟨(.builtin .len), #[(.tmp 32)], #[23]⟩), 3, none⟩,
      ⟨some 34, (.makeSlice 92 (.tmp 33) (.tmp 33)), 92, none⟩,
      ⟨some 10, (.alloc 92), 0, none⟩,
      ⟨none, (.store 92 (.tmp 10) (.tmp 34)), 0, none⟩]))
    (.seq (.seq (.code (.reg [] [⟨some 35, (.load 23 (.tmp 8)), 23, none⟩,
      ⟨some 36, (.call ⟨(.value (.func 94)), #[(.tmp 35)], #[23]⟩), 94, none⟩]))
    (.block 0 (.range (.tmp 36) [37, 38]
    (.reg [] [⟨some 11, (.assign (.tmp 37)), 3, none⟩])
    (.block 1 (.seq (.seq (.reg [] [⟨some 39, (.move (.const (.int .i64 0))), 3, none⟩])
    (.block 2 (.loop (.seq (.reg [] [⟨some 40, (.binOp .lss 3 (.tmp 39) (.const (.int .i64 3)) 3), 0, none⟩])
    (.seq (.cond (.tmp 40)
    .skip
    (.exit 2))
    (.seq (.block 3 (.seq (.reg [] [⟨some 41, (.move (.tmp 39)), 3, none⟩,
      ⟨some 12, (.assign (.tmp 41)), 3, none⟩])
    (.seq (.reg [] [⟨some 42, (.load 23 (.tmp 8)), 23, none⟩,
      ⟨some 43, (.move (.tmp 11)), 3, none⟩,
      ⟨some 44, (.indexAddr 23 (.tmp 42) (.tmp 43)), 0, none⟩,
      ⟨some 45, (.load 3 (.tmp 44)), 3, none⟩,
      ⟨some 46, (.binOp .geq 3 (.tmp 45) (.const (.int .i64 0)) 3), 4, none⟩,
      ⟨some 47, (.move (.tmp 46)), 4, none⟩,
      ⟨some 48, (.load 23 (.tmp 8)), 23, some (47, true)⟩,
      ⟨some 49, (.move (.tmp 11)), 3, some (47, true)⟩,
      ⟨some 50, (.indexAddr 23 (.tmp 48) (.tmp 49)), 0, some (47, true)⟩,
      ⟨some 51, (.load 3 (.tmp 50)), 3, some (47, true)⟩,
      ⟨some 52, (.move (.tmp 12)), 3, some (47, true)⟩,
      ⟨some 53, (.binOp .neq 3 (.tmp 51) (.tmp 52) 3), 4, some (47, true)⟩,
      ⟨some 54, (.pick (.tmp 47) (.tmp 53) (.const (.bool false))), 4, none⟩])
    (.cond (.tmp 54)
    (.reg [] [⟨some 55, (.load 92 (.tmp 10)), 92, none⟩,
      ⟨some 56, (.move (.tmp 11)), 3, none⟩,
      ⟨some 57, (.move (.tmp 12)), 3, none⟩,
      ⟨some 58, (.indexAddr 92 (.tmp 55) (.tmp 56)), 0, none⟩,
      ⟨some 59, (.indexAddr 96 (.tmp 58) (.tmp 57)), 0, none⟩,
      ⟨none, (.store 3 (.tmp 59) (.const (.int .i64 17))), 0, none⟩])
    .skip))))
    (.reg [] [⟨some 60, (.binOp .add 3 (.tmp 39) (.const (.int .i64 1)) 3), 3, none⟩,
      ⟨some 39, (.move (.tmp 60)), 3, none⟩])))))))
    (.seq (.seq (.reg [] [⟨some 61, (.move (.tmp 11)), 3, none⟩,
      ⟨some 62, (.binOp .eql 3 (.tmp 61) (.const (.int .i64 0)) 3), 4, none⟩])
    (.cond (.tmp 62)
    (.exit 0)
    .skip))
    (.seq (.reg [] [⟨some 63, (.fieldAddr 25 (.tmp 4) 0), 0, none⟩,
      ⟨some 64, (.load 23 (.tmp 63)), 23, none⟩,
      ⟨some 65, (.move (.tmp 11)), 3, none⟩,
      ⟨some 66, (.indexAddr 23 (.tmp 64) (.tmp 65)), 0, none⟩,
      ⟨some 67, (.load 3 (.tmp 66)), 3, none⟩,
      ⟨some 13, (.assign (.tmp 67)), 3, none⟩])
    (.seq (.reg [] [⟨some 68, (.move (.const (.int .i64 0))), 3, none⟩])
    (.block 4 (.loop (.seq (.reg [] [⟨some 69, (.binOp .lss 3 (.tmp 68) (.const (.int .i64 3)) 3), 0, none⟩])
    (.seq (.cond (.tmp 69)
    .skip
    (.exit 4))
    (.seq (.block 5 (.seq (.reg [] [⟨some 70, (.move (.tmp 68)), 3, none⟩,
      ⟨some 14, (.assign (.tmp 70)), 3, none⟩])
    (.seq (.reg [] [⟨some 15, (.assign (.const (.int .i64 17))), 3, none⟩])
    (.seq (.seq (.reg [] [⟨some 71, (.load 92 (.tmp 10)), 92, none⟩,
      ⟨some 72, (.move (.tmp 11)), 3, none⟩,
      ⟨some 73, (.indexAddr 92 (.tmp 71) (.tmp 72)), 0, none⟩,
      ⟨some 74, (.load 96 (.tmp 73)), 96, none⟩,
      ⟨some 75, (.move (.const (.int .i64 0))), 3, none⟩])
    (.block 6 (.loop (.seq (.reg [] [⟨some 76, (.binOp .lss 3 (.tmp 75) (.const (.int .i64 3)) 3), 0, none⟩])
    (.seq (.cond (.tmp 76)
    .skip
    (.exit 6))
    (.seq (.block 7 (.seq (.reg [] [⟨some 77, (.move (.tmp 75)), 3, none⟩,
      ⟨some 78, (.index 96 (.tmp 74) (.tmp 75)), 3, none⟩,
      ⟨some 16, (.assign (.tmp 77)), 3, none⟩,
      ⟨some 17, (.assign (.tmp 78)), 3, none⟩])
    (.seq (.seq (.reg [] [⟨some 79, (.move (.tmp 16)), 3, none⟩,
      ⟨some 80, (.move (.tmp 14)), 3, none⟩,
      ⟨some 81, (.binOp .neq 3 (.tmp 79) (.tmp 80) 3), 4, none⟩])
    (.cond (.tmp 81)
    (.reg [] [⟨some 82, (.move (.tmp 17)), 3, none⟩,
      ⟨some 83, (.binOp .add 3 (.tmp 82) (.const (.int .i64 1)) 3), 3, none⟩,
      ⟨some 17, (.assign (.tmp 83)), 3, none⟩])
    .skip))
    (.reg [] [⟨some 84, (.move (.tmp 15)), 3, none⟩,
      ⟨some 85, (.move (.tmp 17)), 3, none⟩,
      ⟨some 86, (.call ⟨(.builtin .min), #[(.tmp 84), (.tmp 85)], #[3, 3]⟩), 3, none⟩,
      ⟨some 15, (.assign (.tmp 86)), 3, none⟩]))))
    (.reg [] [⟨some 87, (.binOp .add 3 (.tmp 75) (.const (.int .i64 1)) 3), 3, none⟩,
      ⟨some 75, (.move (.tmp 87)), 3, none⟩])))))))
    (.draw [] [⟨some 88, (.load 92 (.tmp 10)), 92, none⟩,
      ⟨some 89, (.move (.tmp 13)), 3, none⟩,
      ⟨some 90, (.move (.tmp 14)), 3, none⟩,
      ⟨some 91, (.indexAddr 92 (.tmp 88) (.tmp 89)), 0, none⟩,
      ⟨some 92, (.indexAddr 96 (.tmp 91) (.tmp 90)), 0, none⟩,
      ⟨some 93, (.load 3 (.tmp 92)), 3, none⟩,
      ⟨some 94, (.move (.tmp 15)), 3, none⟩,
      ⟨some 95, (.binOp .add 3 (.tmp 93) (.tmp 94) 3), 3, none⟩,
      ⟨some 96, (.indexAddr 92 (.tmp 88) (.tmp 89)), 0, none⟩,
      ⟨some 97, (.indexAddr 96 (.tmp 96) (.tmp 90)), 0, none⟩,
      ⟨none, (.store 3 (.tmp 97) (.tmp 95)), 0, none⟩] [(0, 1), (0, 2), (1, 2), (2, 3), (0, 6), (1, 6), (2, 6), (3, 6), (4, 6), (5, 6), (2, 8), (3, 8), (4, 8), (5, 8), (6, 8), (7, 8)])))))
    (.reg [] [⟨some 98, (.binOp .add 3 (.tmp 68) (.const (.int .i64 1)) 3), 3, none⟩,
      ⟨some 68, (.move (.tmp 98)), 3, none⟩]))))))))))))))
    (.code (.seq (.reg [] [⟨some 99, (.load 23 (.tmp 8)), 23, none⟩,
      ⟨some 100, (.call ⟨(.builtin .len), #[(.tmp 99)], #[23]⟩), 3, none⟩,
      ⟨some 101, (.makeSlice 23 (.tmp 100) (.tmp 100)), 23, none⟩,
      ⟨some 18, (.assign (.tmp 101)), 23, none⟩])
    (.seq (.seq (.reg [] [⟨some 102, (.load 23 (.tmp 8)), 23, none⟩,
      ⟨some 103, (.call ⟨(.builtin .len), #[(.tmp 102)], #[23]⟩), 3, none⟩,
      ⟨some 104, (.move (.const (.int .i64 0))), 3, none⟩])
    (.block 8 (.loop (.seq (.reg [] [⟨some 105, (.binOp .lss 3 (.tmp 104) (.tmp 103) 3), 4, none⟩])
    (.seq (.cond (.tmp 105)
    .skip
    (.exit 8))
    (.seq (.block 9 (.seq (.reg [] [⟨some 106, (.move (.tmp 104)), 3, none⟩,
      ⟨some 19, (.assign (.tmp 106)), 3, none⟩])
    (.seq (.reg [] [⟨some 20, (.assign (.const (.int .i64 (-1)))), 3, none⟩])
    (.seq (.reg [] [⟨some 107, (.load 92 (.tmp 10)), 92, none⟩,
      ⟨some 108, (.move (.tmp 19)), 3, none⟩,
      ⟨some 109, (.indexAddr 92 (.tmp 107) (.tmp 108)), 0, none⟩,
      ⟨some 110, (.load 96 (.tmp 109)), 96, none⟩,
      ⟨some 111, (.move (.const (.int .i64 0))), 3, none⟩])
    (.block 10 (.loop (.seq (.reg [] [⟨some 112, (.binOp .lss 3 (.tmp 111) (.const (.int .i64 3)) 3), 0, none⟩])
    (.seq (.cond (.tmp 112)
    .skip
    (.exit 10))
    (.seq (.block 11 (.seq (.reg [] [⟨some 113, (.move (.tmp 111)), 3, none⟩,
      ⟨some 114, (.index 96 (.tmp 110) (.tmp 111)), 3, none⟩,
      ⟨some 21, (.assign (.tmp 113)), 3, none⟩,
      ⟨some 22, (.assign (.tmp 114)), 3, none⟩])
    (.seq (.seq (.reg [] [⟨some 115, (.load 23 (.tmp 8)), 23, none⟩,
      ⟨some 116, (.move (.tmp 19)), 3, none⟩,
      ⟨some 117, (.indexAddr 23 (.tmp 115) (.tmp 116)), 0, none⟩,
      ⟨some 118, (.load 3 (.tmp 117)), 3, none⟩,
      ⟨some 119, (.binOp .geq 3 (.tmp 118) (.const (.int .i64 0)) 3), 4, none⟩,
      ⟨some 120, (.move (.tmp 119)), 4, none⟩,
      ⟨some 121, (.load 23 (.tmp 8)), 23, some (120, true)⟩,
      ⟨some 122, (.move (.tmp 19)), 3, some (120, true)⟩,
      ⟨some 123, (.indexAddr 23 (.tmp 121) (.tmp 122)), 0, some (120, true)⟩,
      ⟨some 124, (.load 3 (.tmp 123)), 3, some (120, true)⟩,
      ⟨some 125, (.move (.tmp 21)), 3, some (120, true)⟩,
      ⟨some 126, (.binOp .neq 3 (.tmp 124) (.tmp 125) 3), 4, some (120, true)⟩,
      ⟨some 127, (.pick (.tmp 120) (.tmp 126) (.const (.bool false))), 4, none⟩])
    (.cond (.tmp 127)
    (.exit 11)
    .skip))
    (.seq (.seq (.reg [] [⟨some 128, (.move (.tmp 19)), 3, none⟩,
      ⟨some 129, (.binOp .gtr 3 (.tmp 128) (.const (.int .i64 0)) 3), 4, none⟩,
      ⟨some 130, (.move (.tmp 129)), 4, none⟩,
      ⟨some 131, (.move (.tmp 21)), 3, some (130, true)⟩,
      ⟨some 132, (.move (.tmp 18)), 23, some (130, true)⟩,
      ⟨some 133, (.fieldAddr 25 (.tmp 4) 0), 0, some (130, true)⟩,
      ⟨some 134, (.load 23 (.tmp 133)), 23, some (130, true)⟩,
      ⟨some 135, (.move (.tmp 19)), 3, some (130, true)⟩,
      ⟨some 136, (.indexAddr 23 (.tmp 134) (.tmp 135)), 0, some (130, true)⟩,
      ⟨some 137, (.load 3 (.tmp 136)), 3, some (130, true)⟩,
      ⟨some 138, (.indexAddr 23 (.tmp 132) (.tmp 137)), 0, some (130, true)⟩,
      ⟨some 139, (.load 3 (.tmp 138)), 3, some (130, true)⟩,
      ⟨some 140, (.binOp .neq 3 (.tmp 131) (.tmp 139) 3), 4, some (130, true)⟩,
      ⟨some 141, (.pick (.tmp 130) (.tmp 140) (.const (.bool false))), 4, none⟩])
    (.cond (.tmp 141)
    (.reg [] [⟨some 142, (.move (.tmp 22)), 3, none⟩,
      ⟨some 143, (.binOp .add 3 (.tmp 142) (.const (.int .i64 1)) 3), 3, none⟩,
      ⟨some 22, (.assign (.tmp 143)), 3, none⟩])
    .skip))
    (.seq (.reg [] [⟨some 144, (.move (.tmp 20)), 3, none⟩,
      ⟨some 145, (.binOp .lss 3 (.tmp 144) (.const (.int .i64 0)) 3), 4, none⟩,
      ⟨some 146, (.move (.tmp 145)), 4, none⟩,
      ⟨some 147, (.move (.tmp 22)), 3, some (146, false)⟩,
      ⟨some 148, (.move (.tmp 20)), 3, some (146, false)⟩,
      ⟨some 149, (.binOp .lss 3 (.tmp 147) (.tmp 148) 3), 4, some (146, false)⟩,
      ⟨some 150, (.pick (.tmp 146) (.const (.bool true)) (.tmp 149)), 4, none⟩])
    (.cond (.tmp 150)
    (.reg [] [⟨some 151, (.move (.tmp 18)), 23, none⟩,
      ⟨some 152, (.move (.tmp 19)), 3, none⟩,
      ⟨some 153, (.move (.tmp 22)), 3, none⟩,
      ⟨some 154, (.move (.tmp 21)), 3, none⟩,
      ⟨some 20, (.assign (.tmp 153)), 3, none⟩,
      ⟨some 155, (.indexAddr 23 (.tmp 151) (.tmp 152)), 0, none⟩,
      ⟨none, (.store 3 (.tmp 155) (.tmp 154)), 0, none⟩])
    .skip))))))
    (.reg [] [⟨some 156, (.binOp .add 3 (.tmp 111) (.const (.int .i64 1)) 3), 3, none⟩,
      ⟨some 111, (.move (.tmp 156)), 3, none⟩]))))))))))
    (.reg [] [⟨some 157, (.binOp .add 3 (.tmp 104) (.const (.int .i64 1)) 3), 3, none⟩,
      ⟨some 104, (.move (.tmp 157)), 3, none⟩])))))))
    (.seq (.reg [] [⟨some 158, (.move (.tmp 18)), 23, none⟩,
      ⟨some 6, (.assign (.tmp 158)), 23, none⟩,
      ⟨some 7, (.assign (.const (.bool true))), 4, none⟩])
    .ret)))))))))
theorem C60 {args : List AV} {r : AV} (hn : args.length ≤ 159) (h : vcR Try.prog T [] A60 (FinF T [(.tmp 6), (.tmp 7)] r) ⟨envOf 0 args, []⟩) : CallP Try.prog 60 args r :=
  callR_of tok mixed Try.func60 (by kernel_rfl) (by kernel_rfl) (by kernel_rfl : Try.f60.ntmps = 159) (by kernel_rfl : Try.f60.body.bind (stripR 159 (fun _ => [])) = some A60) hn h

end Go.Proofs.Ytnpkaemlidifgaa
end

section
/- Plain: tables of three costs a node, step by step. -/
namespace Go.Proofs.Ytnpkaemlidifgaa
open Go.Abs Go

def row3 (b : Cost) (j : Nat) : AV := .agg [iv (b j 0), iv (b j 1), iv (b j 2)]
def rowsB (b : Cost) (n : Nat) : List AV := (List.range n).map (row3 b)
theorem rowsB_len (b : Cost) (n : Nat) : (rowsB b n).length = n := by simp [rowsB]
theorem nth_rows {b : Cost} {n j : Nat} (h : j < n) : nth (rowsB b n) j = .agg [.raw (.int .i64 (b j 0)), .raw (.int .i64 (b j 1)), .raw (.int .i64 (b j 2))] := by
  simp [rowsB, nth, List.getD_eq_getElem?_getD, h, row3]
theorem rowsB_congr {b c : Cost} {n : Nat} (h : ∀ j, j < n → b j 0 = c j 0 ∧ b j 1 = c j 1 ∧ b j 2 = c j 2) : rowsB b n = rowsB c n := by
  unfold rowsB
  refine List.map_congr_left fun j hj => ?_
  obtain ⟨h0, h1, h2⟩ := h j (List.mem_range.1 hj)
  simp only [row3, h0, h1, h2]
theorem rowsB_set {b c : Cost} {n i : Nat} (x y z : Int) (h : ∀ j, j < n → j ≠ i → b j 0 = c j 0 ∧ b j 1 = c j 1 ∧ b j 2 = c j 2) (hi : c i 0 = x ∧ c i 1 = y ∧ c i 2 = z) :
    (rowsB b n).set i (.agg [.raw (.int .i64 x), .raw (.int .i64 y), .raw (.int .i64 z)]) = rowsB c n := by
  apply List.ext_getElem?
  intro j
  rw [List.getElem?_set]
  by_cases e : i = j
  · subst e
    rw [if_pos rfl]
    by_cases hj : i < n
    · rw [if_pos (by rw [rowsB_len]; exact hj)]
      simp [rowsB, hj, row3, hi.1, hi.2.1, hi.2.2]
    · rw [if_neg (by rw [rowsB_len]; exact hj)]
      simp [rowsB, hj]
  · rw [if_neg e]
    by_cases hj : j < n
    · obtain ⟨h0, h1, h2⟩ := h j hj (fun e2 => e e2.symm)
      simp [rowsB, hj, row3, h0, h1, h2]
    · simp [rowsB, hj]
theorem rowsB_zero (n : Nat) : rowsB zeroC n = List.replicate n (.agg [.raw (.int .i64 0), .raw (.int .i64 0), .raw (.int .i64 0)]) := by
  apply List.ext_getElem?
  intro j
  by_cases hj : j < n
  · simp [rowsB, hj, row3, zeroC]
  · simp [rowsB, hj]
/-- The first q readings of a node that are forbidden cost M. -/
def forbN (M : Int) (al : Nat → Int → Bool) (i : Nat) (b : Cost) (q : Int) : Cost := fun j r => if j = i ∧ r < q ∧ al i r = false then M else b j r
theorem forbN_zero (M : Int) (al : Nat → Int → Bool) (i : Nat) (b : Cost) (n : Nat) : rowsB (forbN M al i b 0) n = rowsB b n := by
  refine rowsB_congr fun j _ => ?_
  simp [forbN]
theorem forbN_all (M : Int) (al : Nat → Int → Bool) (i : Nat) (b : Cost) (n : Nat) : rowsB (forbN M al i b 3) n = rowsB (forb M al i b) n := by
  refine rowsB_congr fun j _ => ?_
  simp [forbN, forb]
/-- The first q readings of the parent are added to. -/
def addN (M : Int) (i p : Nat) (b : Cost) (q : Int) : Cost := fun j r => if j = p ∧ r < q then b j r + leastF M (b i) r else b j r
theorem addN_zero (M : Int) (i p : Nat) (b : Cost) (n : Nat) : rowsB (addN M i p b 0) n = rowsB b n := by
  refine rowsB_congr fun j _ => ?_
  simp [addN]
theorem addN_all (M : Int) (al : Nat → Int → Bool) (p : Nat → Nat) (i : Nat) (h : i ≠ 0) (b : Cost) (n : Nat) : rowsB (addN M i (p i) (forb M al i b) 3) n = rowsB (dpStep M al p i b) n := by
  refine rowsB_congr fun j _ => ?_
  simp [addN, dpStep, h]
theorem step_zero (M : Int) (al : Nat → Int → Bool) (p : Nat → Nat) (b : Cost) : dpStep M al p 0 b = forb M al 0 b := by
  funext j r
  simp [dpStep]
theorem step_bound {M B : Int} (hM : 0 ≤ M) (hB : M ≤ B) {al : Nat → Int → Bool} {p : Nat → Nat} {i : Nat} {b : Cost} (h : ∀ j r, 0 ≤ b j r ∧ b j r ≤ B) : ∀ j r, 0 ≤ dpStep M al p i b j r ∧ dpStep M al p i b j r ≤ B + M := by
  have hf : ∀ j r, 0 ≤ forb M al i b j r ∧ forb M al i b j r ≤ B := by
    intro j r
    unfold forb
    split
    · exact ⟨hM, hB⟩
    · exact h j r
  intro j r
  have h1 := hf j r
  have h2 : leastF M (forb M al i b i) r ≤ M := leastF_top
  have h3 : 0 ≤ leastF M (forb M al i b i) r := leastF_nn hM fun q => (hf i q).1
  unfold dpStep
  split <;> omega
theorem forb_bound {M B : Int} (hM : 0 ≤ M) (hB : M ≤ B) {al : Nat → Int → Bool} {i : Nat} {b : Cost} (h : ∀ j r, 0 ≤ b j r ∧ b j r ≤ B) : ∀ j r, 0 ≤ forb M al i b j r ∧ forb M al i b j r ≤ B := by
  intro j r
  unfold forb
  split
  · exact ⟨hM, hB⟩
  · exact h j r
theorem forbN_skip {M : Int} {al : Nat → Int → Bool} {i : Nat} {b : Cost} {q : Int} (h : al i q = true) : forbN M al i b (q + 1) = forbN M al i b q := by
  funext j r
  unfold forbN
  by_cases e : r = q
  · subst e; simp [h]
  · have : (r < q + 1) ↔ (r < q) := by omega
    simp only [this]
theorem forbN_hit {M : Int} {al : Nat → Int → Bool} {i : Nat} {b : Cost} {q : Int} (h : al i q = false) : forbN M al i b (q + 1) = fun j r => if j = i ∧ r = q then M else forbN M al i b q j r := by
  funext j r
  unfold forbN
  by_cases e : r = q
  · subst e
    by_cases e2 : j = i
    · subst e2; simp [h]; omega
    · simp [e2]
  · have : (r < q + 1) ↔ (r < q) := by omega
    simp only [this, e, and_false, if_false]
theorem addN_succ {M : Int} {i p : Nat} {b : Cost} {q : Int} : addN M i p b (q + 1) = fun j r => if j = p ∧ r = q then b p q + leastF M (b i) q else addN M i p b q j r := by
  funext j r
  unfold addN
  by_cases e : r = q
  · subst e
    by_cases e2 : j = p
    · subst e2; simp; omega
    · simp [e2]
  · have : (r < q + 1) ↔ (r < q) := by omega
    simp only [this, e, and_false, if_false]
def leastN (M : Int) (f : Int → Int) (r : Int) : Nat → Int
  | 0 => M
  | q + 1 => min (leastN M f r q) (f q + dd q r)
theorem leastN_all (M : Int) (f : Int → Int) (r : Int) : leastN M f r 3 = leastF M f r := by simp [leastN, leastF]
theorem leastN_bound {M : Int} {f : Int → Int} {r : Int} (hM : 0 ≤ M) (h : ∀ q, 0 ≤ f q) : ∀ k, 0 ≤ leastN M f r k ∧ leastN M f r k ≤ M
  | 0 => ⟨hM, Int.le_refl _⟩
  | k + 1 => by
    have ih := leastN_bound (r := r) hM h k
    have := h (k : Int)
    have := dd_nn (k : Int) r
    rw [leastN]
    omega
def rndN (g : Int → Int) (al : Int → Bool) : Nat → Int × Int
  | 0 => (-1, 0)
  | r + 1 => rnd g al (rndN g al r) r
theorem rndN_all (g : Int → Int) (al : Int → Bool) : (rndN g al 3).2 = pick g al := by simp [rndN, pick]
theorem rndN_bound {g : Int → Int} {al : Int → Bool} {B : Int} (hB : 0 ≤ B) (h : ∀ r, ok3 r → 0 ≤ g r ∧ g r ≤ B) : ∀ k, k ≤ 3 → -1 ≤ (rndN g al k).1 ∧ (rndN g al k).1 ≤ B
  | 0, _ => by simp [rndN]; omega
  | k + 1, hk => by
    have ih := rndN_bound (al := al) hB h k (by omega)
    have hg := h (k : Int) (by unfold ok3; omega)
    rw [rndN, rnd]
    split
    · exact ih
    · split
      · dsimp only; omega
      · exact ih
/-- The readings that are there, and zeros; the same with one more that is being looked for. -/
def outG (T : List Int) (n : Nat) : List Int := T ++ List.replicate n 0
def outF (T : List Int) (v : Int) (n : Nat) : List Int := T ++ v :: List.replicate n 0
theorem outG_succ (T : List Int) (n : Nat) : outG T (n + 1) = outF T 0 n := by simp [outG, outF, List.replicate_succ]
theorem outF_end (T : List Int) (v : Int) (n : Nat) : outF T v n = outG (T ++ [v]) n := by simp [outG, outF]
theorem outF_len (T : List Int) (v : Int) (n : Nat) : (outF T v n).length = T.length + 1 + n := by simp [outF]; omega
theorem outF_set (T : List Int) (v x : Int) (n : Nat) : ((outF T v n).map iv).set T.length (.raw (.int .i64 x)) = (outF T x n).map iv := by
  rw [show (AV.raw (.int .i64 x)) = iv x from rfl, ← List.map_set]
  unfold outF
  rw [List.set_append_right _ _ (Nat.le_refl _)]
  simp
theorem outF_el (T : List Int) (v : Int) (n j : Nat) (h : j < T.length) : el (outF T v n) j = el T j := el_app_lt _ _ _ h
end Go.Proofs.Ytnpkaemlidifgaa
end

section
/- PURSE -/
/- Contracts: readings of the nodes with the fewest changes. -/
namespace Go.Proofs.Ytnpkaemlidifgaa
open Go.Abs Go
set_option maxRecDepth 20000
set_option maxHeartbeats 8000000
attribute [local irreducible] PreK CondK CallK CallG CallX LoopK
attribute [local simp] avsEq avEq akind teq vkind vEq

theorem best_c (t : List (List Int)) (par ats : List Int) (p : Nat) (ht : Rds t) (hx : Treed par ats) (hl : ats.length = t.length) (hp : p < wid t) :
    CallP Try.prog 60 [rdsV t, treeV par ats, iv p] (match bestR par (prs t ats p) with | some o => .tup [ints o, bv true] | none => .tup [ints [], bv false]) := by
  refine C60 (by simp) ?_
  have hfx := fixed_c t par ats p ht hx hl hp
  have htop := hx.top
  have hpos := hx.pos
  have hok := treeOK_of ht hx hl hp
  generalize hR : (match bestR par (prs t ats p) with | some o => AV.tup [ints o, bv true] | none => .tup [ints [], bv false]) = R
  unfold bestR at hR
  cases hF : fixF (List.replicate par.length (-1)) (prs t ats p) with
  | none =>
    rw [hF] at hfx hR
    dsimp only [Option.map] at hfx hR
    simp [A60]
    try simp 
    repeat' (first
      | (refine CallX.pure (hfx) (by simp) (by simp) ?_; try simp )
      | (refine CallK.intro (hfx) (by simp) (by simp) ?_; try simp )
      | (refine CallG.intro (fun _ => hfx) (by simp) (by simp) ?_; try simp )
      | ((with_reducible refine PreK.intro ?_ ?_); (next => (first | omega | (intros; first | omega | (refine ⟨by omega, ?_⟩; repeat (first | assumption | constructor)) | assumption))); intro _; try simp )
      | fail)
    refine CondK.tt ?_
    try simp 
    subst hR
    refine ⟨[], ?_⟩
    simp [frzs]
    repeat (refine PreK.intro (by first | omega | (intros; first | omega | (refine ⟨by omega, ?_⟩; simp_all; done) | (simp_all; done) | (simp_all; omega))) fun _ => ?_; (try simp ))
  | some own =>
    rw [hF] at hfx hR
    dsimp only [Option.map] at hfx hR
    have hol : own.length = par.length := (fix_some hok.pairs (by simp) hF).1
    have hbw := Backward_c own
    have hit := backward_it own (by omega)
    have hrz := rowsB_zero own.length
    simp [A60]
    try simp 
    repeat' (first
      | (refine CallX.pure (hfx) (by simp) (by simp) ?_; try simp )
      | (refine CallK.intro (hfx) (by simp) (by simp) ?_; try simp )
      | (refine CallG.intro (fun _ => hfx) (by simp) (by simp) ?_; try simp )
      | ((with_reducible refine PreK.intro ?_ ?_); (next => (first | omega | (intros; first | omega | (refine ⟨by omega, ?_⟩; repeat (first | assumption | constructor)) | assumption))); intro _; try simp )
      | fail)
    refine CondK.ff ?_
    try simp 
    repeat (refine PreK.intro (by first | omega | (intros; first | omega | (refine ⟨by omega, ?_⟩; simp_all; done) | (simp_all; done) | (simp_all; omega))) fun _ => ?_; (try simp ))
    try simp 
    repeat' (first
      | (refine CallX.pure (hbw) (by simp) (by simp) ?_; try simp )
      | (refine CallK.intro (hbw) (by simp) (by simp) ?_; try simp )
      | (refine CallG.intro (fun _ => hbw) (by simp) (by simp) ?_; try simp )
      | ((with_reducible refine PreK.intro ?_ ?_); (next => (first | omega | (intros; first | omega | (refine ⟨by omega, ?_⟩; repeat (first | assumption | constructor)) | assumption))); intro _; try simp )
      | fail)
    rw [← hrz]
    refine RangeK.by ⟨[(36, .fn 103 [] [.ipt (ints own) 0]), (4, .pt 4 1 0 0), (8, .pt 8 1 0 0), (10, .pt 10 1 0 0)],
        [(4, some ⟨2, [treeV par ats], 1, true⟩), (8, some ⟨1, [ints own], 1, true⟩), (10, some ⟨1, [.sl 34 1 0 own.length], 1, true⟩), (34, some ⟨3, rowsB zeroC own.length, 1, false⟩)]⟩
      [(4, 1, 4), (8, 1, 8), (10, 1, 10), (34, 1, 34)] (ι := Cost) (fun b => [(4, some ⟨2, [treeV par ats], 0, true⟩), (8, some ⟨1, [ints own], 0, true⟩), (10, some ⟨1, [.sl 34 0 0 own.length], 0, true⟩), (34, some ⟨3, rowsB b own.length, 0, false⟩)])
      (fun k b => k < own.length ∧ dpRun 17 (alM own) (pf par) (own.length - k) b = costP par own ∧ ∀ j r, 0 ≤ b j r ∧ b j r ≤ 17 * ((k : Int) + 1)) zeroC
      hit (by simp) (by simp) (by simp [AV.refsL, AV.refs]) (by simp) ?_ (by simp) ⟨by omega, by rw [Nat.sub_zero, hol]; rfl, fun j r => by simp [zeroC]⟩ ?_ ?_ ?_
    · intro k hk
      rw [backL_len] at hk
      rw [backL_get own k hk]
      refine ⟨rfl, fun v hv => ?_⟩
      simp only [List.mem_cons, List.not_mem_nil, or_false] at hv
      rcases hv with rfl | rfl <;> rfl
    · intro k b _
      simp [RoundM]
    · intro k b Q' hk ⟨_, hrun, hbd⟩ hn hxt hrt
      rw [backL_len] at hk
      rw [backL_get own k hk]
      obtain ⟨i, hi⟩ : ∃ i : Nat, own.length - 1 - k = i := ⟨_, rfl⟩
      have hil : i < own.length := by omega
      have hki : own.length - k = i + 1 := by omega
      rw [hi]
      rw [hki, dpRun] at hrun
      have hk16 : k < 16 := by omega
      have hbB : ∀ j r, 0 ≤ b j r ∧ b j r ≤ 272 := fun j r => by have := hbd j r; omega
      have hfb := forb_bound (M := 17) (B := 272) (al := alM own) (i := i) (b := b) (by decide) (by decide) hbB
      simp [parE, renE]
      rw [← forbN_zero 17 (alM own) i b own.length]
      refine LoopK.by (ι := Nat) (fun r => ⟨[(39, iv r), (11, iv i), (4, .pt 4 0 0 0), (8, .pt 8 0 0 0), (10, .pt 10 0 0 0)], [(4, some ⟨2, [treeV par ats], 0, true⟩), (8, some ⟨1, [ints own], 0, true⟩), (10, some ⟨1, [.sl 34 0 0 own.length], 0, true⟩), (34, some ⟨3, rowsB (forbN 17 (alM own) i b r) own.length, 0, false⟩)]⟩)
        (fun r => 3 - r) (fun r => r ≤ 3) 0 (by decide) (by simp) ?_
      intro r Q2 hr3 hq2 he2 hrr2
      have hlen := rowsB_len (forbN 17 (alM own) i b r) own.length
      have hnth := nth_rows (b := forbN 17 (alM own) i b r) hil
      have hq3 := hq2 (r + 1)
      have hsk : alM own i r = true → forbN 17 (alM own) i b ((r + 1 : Nat) : Int) = forbN 17 (alM own) i b r := fun h => forbN_skip h
      have hht : alM own i r = false → forbN 17 (alM own) i b ((r + 1 : Nat) : Int) = fun j q => if j = i ∧ q = (r : Int) then 17 else forbN 17 (alM own) i b r j q := fun h => forbN_hit h
      by_cases h1 : r < 3
      · have h1' : (r : Int) < 3 := by omega
        try simp [h1']
        repeat (refine PreK.intro (by first | omega | (intros; first | omega | (refine ⟨by omega, ?_⟩; simp_all; done) | (simp_all; done) | (simp_all; omega))) fun _ => ?_; (try simp [h1']))
        refine CondK.tt ?_
        try simp 
        generalize forbN 17 (alM own) i b r = c at hlen hnth hsk hht
        by_cases h5 : 0 ≤ el own i
        · by_cases h6 : el own i = (r : Int)
          · have hal : alM own i r = true := by simp [alM, h6]
            rw [hsk hal] at hq3
            have hrc : r = 0 ∨ r = 1 ∨ r = 2 := by omega
            rcases hrc with rfl | rfl | rfl
            all_goals
              simp at h6
              try simp [hil, h5, h6]
              repeat (refine PreK.intro (by first | omega | (intros; first | omega | (refine ⟨by omega, ?_⟩; simp_all; done) | (simp_all; done) | (simp_all; omega))) fun _ => ?_; (try simp [hil, h5, h6]))
              refine CondK.ff ?_
              try simp 
              repeat (refine PreK.intro (by first | omega | (intros; first | omega | (refine ⟨by omega, ?_⟩; simp_all; done) | (simp_all; done) | (simp_all; omega))) fun _ => ?_; (try simp ))
              exact hq3 _ (by omega) (by omega) (by simp)
          · have hal : alM own i r = false := by simp [alM, h6]; omega
            rw [hht hal] at hq3
            have hrc : r = 0 ∨ r = 1 ∨ r = 2 := by omega
            rcases hrc with rfl | rfl | rfl
            all_goals
              simp at h6
              try simp [hil, h5, h6]
              repeat (refine PreK.intro (by first | omega | (intros; first | omega | (refine ⟨by omega, ?_⟩; simp_all; done) | (simp_all; done) | (simp_all; omega))) fun _ => ?_; (try simp [hil, h5, h6]))
              refine CondK.tt ?_
              try simp 
              repeat (refine PreK.intro (by first | omega | (intros; first | omega | (refine ⟨by omega, ?_⟩; simp_all; done) | (simp_all; done) | (simp_all; omega))) fun _ => ?_; (try simp [hil, hlen, hnth]))
              exact hq3 _ (by omega) (by omega) (by simp; exact .inl (rowsB_set _ _ _ (fun j _ hne => by simp [hne]) (by simp)))
        · have hal : alM own i r = true := by simp [alM]; omega
          rw [hsk hal] at hq3
          try simp [hil, h5]
          repeat (refine PreK.intro (by first | omega | (intros; first | omega | (refine ⟨by omega, ?_⟩; simp_all; done) | (simp_all; done) | (simp_all; omega))) fun _ => ?_; (try simp [hil, h5]))
          refine CondK.ff ?_
          try simp 
          repeat (refine PreK.intro (by first | omega | (intros; first | omega | (refine ⟨by omega, ?_⟩; simp_all; done) | (simp_all; done) | (simp_all; omega))) fun _ => ?_; (try simp ))
          exact hq3 _ (by omega) (by omega) (by simp)
      · have h1' : ¬ (r : Int) < 3 := by omega
        obtain rfl : r = 3 := by omega
        try simp [h1']
        repeat (refine PreK.intro (by first | omega | (intros; first | omega | (refine ⟨by omega, ?_⟩; simp_all; done) | (simp_all; done) | (simp_all; omega))) fun _ => ?_; (try simp [h1']))
        refine CondK.ff ?_
        try simp 
        apply he2
        have e3 : rowsB (forbN 17 (alM own) i b ((3 : Nat) : Int)) own.length = rowsB (forb 17 (alM own) i b) own.length := forbN_all _ _ _ _ _
        have e3' : rowsB (forbN 17 (alM own) i b 3) own.length = rowsB (forb 17 (alM own) i b) own.length := forbN_all _ _ _ _ _
        first | rw [e3] | rw [e3']
        by_cases hi0 : i = 0
        · subst hi0
          try simp 
          refine CondK.tt ?_
          try simp 
          rw [dpRun, step_zero] at hrun
          rw [hrun] at hfb ⊢
          apply hxt 0 [(4, some ⟨2, [treeV par ats], 0, true⟩), (8, some ⟨1, [ints own], 0, true⟩), (10, some ⟨1, [.sl 34 0 0 own.length], 0, true⟩), (34, some ⟨3, rowsB (costP par own) own.length, 0, false⟩)]
          · simp
          · simp [RoundM]
          · clear hn hxt hrt hq3 hq2 he2 hrr2 hsk hht hnth hlen e3 e3' hrun hbd hbB
            have hFl := rowsB_len (costP par own) own.length
            generalize hFc : costP par own = F at hfb hFl
            have hoz : List.replicate own.length (AV.raw (.int .i64 0)) = (outG (topD F (alM own) (pf par) 0) (own.length - 0)).map iv := by simp [topD, outG]
            try simp 
            repeat (refine PreK.intro (by first | omega | (intros; first | omega | (refine ⟨by omega, ?_⟩; simp_all; done) | (simp_all; done) | (simp_all; omega))) fun _ => ?_; (try simp ))
            rw [hoz]
            refine LoopK.by (ι := Nat) (fun i => ⟨[(104, iv i), (103, iv own.length), (18, .sl 101 1 0 own.length), (4, .pt 4 1 0 0), (8, .pt 8 1 0 0), (10, .pt 10 1 0 0)],
              [(101, some ⟨1, (outG (topD F (alM own) (pf par) i) (own.length - i)).map iv, 1, false⟩), (4, some ⟨2, [treeV par ats], 1, true⟩), (8, some ⟨1, [ints own], 1, true⟩), (10, some ⟨1, [.sl 34 1 0 own.length], 1, true⟩), (34, some ⟨3, rowsB F own.length, 1, false⟩)]⟩)
              (fun i => own.length - i) (fun i => i ≤ own.length) 0 (Nat.zero_le _) (by simp) ?_
            intro i Q3 hi3 hq he hr
            have hT := topD_len F (alM own) (pf par) i
            try simp 
            refine CondK.intro (fun h2 => ?_) (fun h2 => ?_)
            · simp at h2
              have hq' := hq (i + 1)
              rw [topD] at hq'
              have hnth := nth_rows (b := F) h2
              have hrep : outG (topD F (alM own) (pf par) i) (own.length - i) = outF (topD F (alM own) (pf par) i) (rndN (seenF F (pf par) (topD F (alM own) (pf par) i) i) (alM own i) 0).2 (own.length - (i + 1)) := by
                rw [show own.length - i = (own.length - (i + 1)) + 1 by omega, outG_succ]; rfl
              rw [hrep]
              rw [← outF_end, ← rndN_all] at hq'
              generalize hTT : topD F (alM own) (pf par) i = TT at hT hq'
              have hgb : ∀ r, ok3 r → 0 ≤ seenF F (pf par) TT i r ∧ seenF F (pf par) TT i r ≤ 273 := by
                intro r _
                have h1 := hfb i r
                have h2 := dd_nn r (el TT (pf par i))
                have h3 := dd_le r (el TT (pf par i))
                unfold seenF
                split <;> omega
              have hrb := rndN_bound (al := alM own i) (B := 273) (by decide) hgb
              generalize hZ : own.length - (i + 1) = Z at hq'
              have hset : ∀ v x : Int, ((outF TT v Z).map iv).set i (.raw (.int .i64 x)) = (outF TT x Z).map iv := by
                intro v x
                rw [← hT]; exact outF_set _ _ _ _
              have hol2 : ∀ v : Int, (outF TT v Z).length = own.length := by intro v; rw [outF_len]; omega
              try simp 
              repeat (refine PreK.intro (by first | omega | (intros; first | omega | (refine ⟨by omega, ?_⟩; simp_all; done) | (simp_all; done) | (simp_all; omega))) fun _ => ?_; (try simp [h2, hnth, hFl]))
              refine LoopK.by (ι := Nat) (fun r => ⟨[(111, iv r), (110, .agg [.raw (.int .i64 (F i 0)), .raw (.int .i64 (F i 1)), .raw (.int .i64 (F i 2))]), (20, iv (rndN (seenF F (pf par) TT i) (alM own i) r).1), (19, iv i), (104, iv i), (103, iv own.length), (18, .sl 101 1 0 own.length), (4, .pt 4 1 0 0), (8, .pt 8 1 0 0), (10, .pt 10 1 0 0)],
                [(101, some ⟨1, (outF TT (rndN (seenF F (pf par) TT i) (alM own i) r).2 Z).map iv, 1, false⟩), (4, some ⟨2, [treeV par ats], 1, true⟩), (8, some ⟨1, [ints own], 1, true⟩), (10, some ⟨1, [.sl 34 1 0 own.length], 1, true⟩), (34, some ⟨3, rowsB F own.length, 1, false⟩)]⟩)
                (fun r => 3 - r) (fun r => r ≤ 3) 0 (by decide) (by simp [rndN]) ?_
              intro r Q4 hr4 hq4 he4 hr5
              have hrb1 := hrb r hr4
              have hq5 := hq4 (r + 1)
              rw [rndN, rnd] at hq5
              by_cases h3 : r < 3
              · have h3' : (r : Int) < 3 := by omega
                have hg : seenF F (pf par) TT i r = F i r + if i = 0 then 0 else dd r (el TT (pf par i)) := rfl
                rw [hg] at hq5
                generalize rndN (seenF F (pf par) TT i) (alM own i) r = S at hrb1 hq5
                obtain ⟨S1, S2⟩ := S
                dsimp only at hrb1 hq5
                have hol3 := hol2 S2
                have hset3 := hset S2
                by_cases hal : alM own i r = true
                · rw [if_neg (by simp [hal])] at hq5
                  have hown : el own i < 0 ∨ el own i = (r : Int) := by simpa [alM] using hal
                  have hg0 : ∀ r : Int, (F i r + 0) = F i r := fun r => by omega
                  have hFe0 : r = 0 → F i (r : Int) = F i 0 := fun h => by rw [h]; rfl
                  have hFe1 : r = 1 → F i (r : Int) = F i 1 := fun h => by rw [h]; rfl
                  have hFe2 : r = 2 → F i (r : Int) = F i 2 := fun h => by rw [h]; rfl
                  have hrc : r = 0 ∨ r = 1 ∨ r = 2 := by omega
                  rcases hrc with rfl | rfl | rfl
                  all_goals
                    try have hFe := hFe0 rfl
                    try have hFe := hFe1 rfl
                    try have hFe := hFe2 rfl
                    clear hFe0 hFe1 hFe2
                    try simp 
                    repeat (refine PreK.intro (by first | omega | (intros; first | omega | (refine ⟨by omega, ?_⟩; simp_all; done) | (simp_all; done) | (simp_all; omega))) fun _ => ?_; (try simp ))
                    refine CondK.tt ?_
                    try simp 
                    have hF0 := hfb i 0
                    have hF1 := hfb i 1
                    have hF2 := hfb i 2
                    rcases Decidable.em (i = 0) with hi0 | hi0
                    · rw [if_pos hi0] at hq5
                      subst hi0
                      have h0p : 0 < par.length := hpos
                      have hroot := hx.root
                      have h00 : 0 < (outF TT S2 Z).length := by rw [hol3]; omega
                      rcases hown with h5 | h6
                      · have h5' : ¬ 0 ≤ el own 0 := by omega
                        try simp [h2, h5']
                        repeat (refine PreK.intro (by first | omega | (intros; first | omega | (refine ⟨by omega, ?_⟩; simp_all; done) | (simp_all; done) | (simp_all; omega))) fun _ => ?_; (try simp [h2, h5']))
                        refine CondK.ff ?_
                        try simp 
                        try simp [h2, h0p, hroot, h00]
                        repeat (refine PreK.intro (by first | omega | (intros; first | omega | (refine ⟨by omega, ?_⟩; simp_all; done) | (simp_all; done) | (simp_all; omega))) fun _ => ?_; (try simp [h2, h0p, hroot, h00]))
                        refine CondK.ff ?_
                        try simp 
                        try simp 
                        refine CondK.intro (fun h7 => ?_) (fun h7 => ?_)
                        · rw [if_pos (by simp at h7; omega)] at hq5
                          try simp [h2, hol3]
                          repeat (refine PreK.intro (by first | omega | (intros; first | omega | (refine ⟨by omega, ?_⟩; simp_all; done) | (simp_all; done) | (simp_all; omega))) fun _ => ?_; (try simp [h2, hol3]))
                          exact hq5 _ (by omega) (by omega) (by simp; exact .inl (hset3 _))
                        · rw [if_neg (by simp at h7; omega)] at hq5
                          try simp 
                          repeat (refine PreK.intro (by first | omega | (intros; first | omega | (refine ⟨by omega, ?_⟩; simp_all; done) | (simp_all; done) | (simp_all; omega))) fun _ => ?_; (try simp ))
                          exact hq5 _ (by omega) (by omega) (by simp)
                      · simp at h6
                        try simp [h2, h6]
                        repeat (refine PreK.intro (by first | omega | (intros; first | omega | (refine ⟨by omega, ?_⟩; simp_all; done) | (simp_all; done) | (simp_all; omega))) fun _ => ?_; (try simp [h2, h6]))
                        refine CondK.ff ?_
                        try simp 
                        try simp [h2, h0p, hroot, h00]
                        repeat (refine PreK.intro (by first | omega | (intros; first | omega | (refine ⟨by omega, ?_⟩; simp_all; done) | (simp_all; done) | (simp_all; omega))) fun _ => ?_; (try simp [h2, h0p, hroot, h00]))
                        refine CondK.ff ?_
                        try simp 
                        try simp 
                        refine CondK.intro (fun h7 => ?_) (fun h7 => ?_)
                        · rw [if_pos (by simp at h7; omega)] at hq5
                          try simp [h2, hol3]
                          repeat (refine PreK.intro (by first | omega | (intros; first | omega | (refine ⟨by omega, ?_⟩; simp_all; done) | (simp_all; done) | (simp_all; omega))) fun _ => ?_; (try simp [h2, hol3]))
                          exact hq5 _ (by omega) (by omega) (by simp; exact .inl (hset3 _))
                        · rw [if_neg (by simp at h7; omega)] at hq5
                          try simp 
                          repeat (refine PreK.intro (by first | omega | (intros; first | omega | (refine ⟨by omega, ?_⟩; simp_all; done) | (simp_all; done) | (simp_all; omega))) fun _ => ?_; (try simp ))
                          exact hq5 _ (by omega) (by omega) (by simp)
                    · have hi0' : 0 < i := by omega
                      have hi0'' : (0 : Int) < (i : Int) := by omega
                      rw [if_neg hi0] at hq5
                      have hip : i < par.length := by omega
                      have hpf := hx.pfE (show 1 ≤ i by omega) hip
                      have hpi : el par i = ((pf par i : Nat) : Int) := hpf.2.symm
                      have hplt := pf_lt par i (by omega)
                      have hel := outF_el TT S2 Z (pf par i) (by omega)
                      generalize pf par i = m at hpi hplt hel hq5
                      have hmo : m < (outF TT S2 Z).length := by omega
                      have hml : m < own.length := by omega
                      generalize el TT m = e at hel hq5
                      rcases hown with h5 | h6
                      · have h5' : ¬ 0 ≤ el own i := by omega
                        try simp [h2, h5']
                        repeat (refine PreK.intro (by first | omega | (intros; first | omega | (refine ⟨by omega, ?_⟩; simp_all; done) | (simp_all; done) | (simp_all; omega))) fun _ => ?_; (try simp [h2, h5']))
                        refine CondK.ff ?_
                        try simp 
                        try simp [h2, hi0', hi0'', hip, hpi, hol3, hmo, hml, hel]
                        repeat (refine PreK.intro (by first | omega | (intros; first | omega | (refine ⟨by omega, ?_⟩; simp_all; done) | (simp_all; done) | (simp_all; omega))) fun _ => ?_; (try simp [h2, hi0', hi0'', hip, hpi, hol3, hmo, hml, hel]))
                        refine CondK.intro (fun h8 => ?_) (fun h8 => ?_)
                        · simp at h8
                          have hdd : ∀ q : Int, ¬ q = e → dd q e = 1 := fun q h => by unfold dd; rw [if_neg h]
                          rw [hdd _ (by simpa using h8)] at hq5
                          try simp 
                          repeat (refine PreK.intro (by first | omega | (intros; first | omega | (refine ⟨by omega, ?_⟩; simp_all; done) | (simp_all; done) | (simp_all; omega))) fun _ => ?_; (try simp ))
                          refine CondK.intro (fun h7 => ?_) (fun h7 => ?_)
                          · rw [if_pos (by simp at h7; omega)] at hq5
                            try simp [h2, hol3]
                            repeat (refine PreK.intro (by first | omega | (intros; first | omega | (refine ⟨by omega, ?_⟩; simp_all; done) | (simp_all; done) | (simp_all; omega))) fun _ => ?_; (try simp [h2, hol3]))
                            exact hq5 _ (by omega) (by omega) (by simp; exact .inl (hset3 _))
                          · rw [if_neg (by simp at h7; omega)] at hq5
                            try simp 
                            repeat (refine PreK.intro (by first | omega | (intros; first | omega | (refine ⟨by omega, ?_⟩; simp_all; done) | (simp_all; done) | (simp_all; omega))) fun _ => ?_; (try simp ))
                            exact hq5 _ (by omega) (by omega) (by simp)
                        · simp at h8
                          have hdd : ∀ q : Int, q = e → dd q e = 0 := fun q h => by unfold dd; rw [if_pos h]
                          rw [hdd _ (by simpa using h8)] at hq5
                          try simp 
                          repeat (refine PreK.intro (by first | omega | (intros; first | omega | (refine ⟨by omega, ?_⟩; simp_all; done) | (simp_all; done) | (simp_all; omega))) fun _ => ?_; (try simp ))
                          refine CondK.intro (fun h7 => ?_) (fun h7 => ?_)
                          · rw [if_pos (by simp at h7; omega)] at hq5
                            try simp [h2, hol3]
                            repeat (refine PreK.intro (by first | omega | (intros; first | omega | (refine ⟨by omega, ?_⟩; simp_all; done) | (simp_all; done) | (simp_all; omega))) fun _ => ?_; (try simp [h2, hol3]))
                            exact hq5 _ (by omega) (by omega) (by simp; exact .inl (hset3 _))
                          · rw [if_neg (by simp at h7; omega)] at hq5
                            try simp 
                            repeat (refine PreK.intro (by first | omega | (intros; first | omega | (refine ⟨by omega, ?_⟩; simp_all; done) | (simp_all; done) | (simp_all; omega))) fun _ => ?_; (try simp ))
                            exact hq5 _ (by omega) (by omega) (by simp)
                      · simp at h6
                        try simp [h2, h6]
                        repeat (refine PreK.intro (by first | omega | (intros; first | omega | (refine ⟨by omega, ?_⟩; simp_all; done) | (simp_all; done) | (simp_all; omega))) fun _ => ?_; (try simp [h2, h6]))
                        refine CondK.ff ?_
                        try simp 
                        try simp [h2, hi0', hi0'', hip, hpi, hol3, hmo, hml, hel]
                        repeat (refine PreK.intro (by first | omega | (intros; first | omega | (refine ⟨by omega, ?_⟩; simp_all; done) | (simp_all; done) | (simp_all; omega))) fun _ => ?_; (try simp [h2, hi0', hi0'', hip, hpi, hol3, hmo, hml, hel]))
                        refine CondK.intro (fun h8 => ?_) (fun h8 => ?_)
                        · simp at h8
                          have hdd : ∀ q : Int, ¬ q = e → dd q e = 1 := fun q h => by unfold dd; rw [if_neg h]
                          rw [hdd _ (by simpa using h8)] at hq5
                          try simp 
                          repeat (refine PreK.intro (by first | omega | (intros; first | omega | (refine ⟨by omega, ?_⟩; simp_all; done) | (simp_all; done) | (simp_all; omega))) fun _ => ?_; (try simp ))
                          refine CondK.intro (fun h7 => ?_) (fun h7 => ?_)
                          · rw [if_pos (by simp at h7; omega)] at hq5
                            try simp [h2, hol3]
                            repeat (refine PreK.intro (by first | omega | (intros; first | omega | (refine ⟨by omega, ?_⟩; simp_all; done) | (simp_all; done) | (simp_all; omega))) fun _ => ?_; (try simp [h2, hol3]))
                            exact hq5 _ (by omega) (by omega) (by simp; exact .inl (hset3 _))
                          · rw [if_neg (by simp at h7; omega)] at hq5
                            try simp 
                            repeat (refine PreK.intro (by first | omega | (intros; first | omega | (refine ⟨by omega, ?_⟩; simp_all; done) | (simp_all; done) | (simp_all; omega))) fun _ => ?_; (try simp ))
                            exact hq5 _ (by omega) (by omega) (by simp)
                        · simp at h8
                          have hdd : ∀ q : Int, q = e → dd q e = 0 := fun q h => by unfold dd; rw [if_pos h]
                          rw [hdd _ (by simpa using h8)] at hq5
                          try simp 
                          repeat (refine PreK.intro (by first | omega | (intros; first | omega | (refine ⟨by omega, ?_⟩; simp_all; done) | (simp_all; done) | (simp_all; omega))) fun _ => ?_; (try simp ))
                          refine CondK.intro (fun h7 => ?_) (fun h7 => ?_)
                          · rw [if_pos (by simp at h7; omega)] at hq5
                            try simp [h2, hol3]
                            repeat (refine PreK.intro (by first | omega | (intros; first | omega | (refine ⟨by omega, ?_⟩; simp_all; done) | (simp_all; done) | (simp_all; omega))) fun _ => ?_; (try simp [h2, hol3]))
                            exact hq5 _ (by omega) (by omega) (by simp; exact .inl (hset3 _))
                          · rw [if_neg (by simp at h7; omega)] at hq5
                            try simp 
                            repeat (refine PreK.intro (by first | omega | (intros; first | omega | (refine ⟨by omega, ?_⟩; simp_all; done) | (simp_all; done) | (simp_all; omega))) fun _ => ?_; (try simp ))
                            exact hq5 _ (by omega) (by omega) (by simp)
                · have hal' : alM own i r = false := by simpa using hal
                  rw [if_pos hal'] at hq5
                  have h5 : 0 ≤ el own i := by simp [alM] at hal'; omega
                  have h6 : ¬ el own i = (r : Int) := by simp [alM] at hal'; omega
                  have hrc : r = 0 ∨ r = 1 ∨ r = 2 := by omega
                  rcases hrc with rfl | rfl | rfl
                  all_goals
                    simp at h6
                    try simp 
                    repeat (refine PreK.intro (by first | omega | (intros; first | omega | (refine ⟨by omega, ?_⟩; simp_all; done) | (simp_all; done) | (simp_all; omega))) fun _ => ?_; (try simp ))
                    refine CondK.tt ?_
                    try simp 
                    try simp [h2, h5, h6]
                    repeat (refine PreK.intro (by first | omega | (intros; first | omega | (refine ⟨by omega, ?_⟩; simp_all; done) | (simp_all; done) | (simp_all; omega))) fun _ => ?_; (try simp [h2, h5, h6]))
                    refine CondK.tt ?_
                    try simp 
                    try simp 
                    repeat (refine PreK.intro (by first | omega | (intros; first | omega | (refine ⟨by omega, ?_⟩; simp_all; done) | (simp_all; done) | (simp_all; omega))) fun _ => ?_; (try simp ))
                    exact hq5 _ (by omega) (by omega) (by simp)
              · have h3' : ¬ (r : Int) < 3 := by omega
                obtain rfl : r = 3 := by omega
                try simp [h3']
                repeat (refine PreK.intro (by first | omega | (intros; first | omega | (refine ⟨by omega, ?_⟩; simp_all; done) | (simp_all; done) | (simp_all; omega))) fun _ => ?_; (try simp [h3']))
                refine CondK.ff ?_
                try simp 
                apply he4
                repeat (refine PreK.intro (by first | omega | (intros; first | omega | (refine ⟨by omega, ?_⟩; simp_all; done) | (simp_all; done) | (simp_all; omega))) fun _ => ?_; (try simp ))
                exact hq' _ (by omega) (by omega) (by simp)
            · simp at h2
              obtain rfl : i = own.length := by omega
              have eR : outG (topD F (alM own) (pf par) own.length) (own.length - own.length) = readM par own := by
                rw [Nat.sub_self]
                unfold outG readM
                rw [hFc, hol]
                simp
              have hrl := readM_len par own
              rw [eR]
              try simp 
              apply he
              try simp 
              rw [← hR]
              refine ⟨[], ?_⟩
              simp [frzs]
              repeat (refine PreK.intro (by first | omega | (intros; first | omega | (refine ⟨by omega, ?_⟩; simp_all; done) | (simp_all; done) | (simp_all; omega))) fun _ => ?_; (try simp [hrl, hol]))
              exact List.take_of_length_le (by simp [hrl])
        · have hi0' : ¬ (i : Int) = 0 := by omega
          have hip : i < par.length := by omega
          have hpf := hx.pfE (show 1 ≤ i by omega) hip
          have hpi : el par i = ((pf par i : Nat) : Int) := hpf.2.symm
          have hplt := pf_lt par i (by omega)
          have hadd := addN_all 17 (alM own) (pf par) i hi0 b own.length
          have hsb := step_bound (M := 17) (B := 17 * ((k : Int) + 1)) (al := alM own) (p := pf par) (i := i) (b := b) (by decide) (by omega) hbd
          generalize hm : pf par i = m at hpi hplt hadd
          generalize hfc : forb 17 (alM own) i b = fb at hfb hadd
          try simp [hi0', hi0]
          repeat (refine PreK.intro (by first | omega | (intros; first | omega | (refine ⟨by omega, ?_⟩; simp_all; done) | (simp_all; done) | (simp_all; omega))) fun _ => ?_; (try simp [hi0', hi0]))
          refine CondK.ff ?_
          try simp 
          repeat (refine PreK.intro (by first | omega | (intros; first | omega | (refine ⟨by omega, ?_⟩; simp_all; done) | (simp_all; done) | (simp_all; omega))) fun _ => ?_; (try simp [hip, hpi]))
          rw [← addN_zero 17 i m fb own.length]
          refine LoopK.by (ι := Nat) (fun r => ⟨[(68, iv r), (13, iv m), (11, iv i), (10, .pt 10 0 0 0)], [(4, some ⟨2, [treeV par ats], 0, true⟩), (8, some ⟨1, [ints own], 0, true⟩), (10, some ⟨1, [.sl 34 0 0 own.length], 0, true⟩), (34, some ⟨3, rowsB (addN 17 i m fb r) own.length, 0, false⟩)]⟩)
            (fun r => 3 - r) (fun r => r ≤ 3) 0 (by decide) (by simp) ?_
          clear hq3 hq2 he2 hrr2 hsk hht hnth hlen e3 e3' hr3 h1 h1'
          intro r Q3 hr3 hq3 he3 hrr3
          have hlen := rowsB_len (addN 17 i m fb r) own.length
          have hnth := nth_rows (b := addN 17 i m fb r) hil
          have hnm := nth_rows (b := addN 17 i m fb r) (show m < own.length by omega)
          have hci : ∀ q, addN 17 i m fb r i q = fb i q := fun q => by simp [addN]; omega
          have hcm : addN 17 i m fb r m r = fb m r := by simp [addN]
          have hq4 := hq3 (r + 1)
          have hsu : addN 17 i m fb ((r + 1 : Nat) : Int) = fun j q => if j = m ∧ q = (r : Int) then fb m r + leastF 17 (fb i) r else addN 17 i m fb r j q := addN_succ (q := (r : Int))
          rw [hsu] at hq4
          have hf0 := hfb i 0
          have hf1 := hfb i 1
          have hf2 := hfb i 2
          have hfm := hfb m r
          by_cases h1 : r < 3
          · have h1' : (r : Int) < 3 := by omega
            try simp [h1']
            repeat (refine PreK.intro (by first | omega | (intros; first | omega | (refine ⟨by omega, ?_⟩; simp_all; done) | (simp_all; done) | (simp_all; omega))) fun _ => ?_; (try simp [h1']))
            refine CondK.tt ?_
            try simp 
            repeat (refine PreK.intro (by first | omega | (intros; first | omega | (refine ⟨by omega, ?_⟩; simp_all; done) | (simp_all; done) | (simp_all; omega))) fun _ => ?_; (try simp [hil, hlen, hnth, hci]))
            refine LoopK.by (ι := Nat) (fun q => ⟨[(75, iv q), (74, .agg [.raw (.int .i64 (fb i 0)), .raw (.int .i64 (fb i 1)), .raw (.int .i64 (fb i 2))]), (15, iv (leastN 17 (fb i) r q)), (14, iv r), (68, iv r), (13, iv m), (11, iv i), (10, .pt 10 0 0 0)], [(4, some ⟨2, [treeV par ats], 0, true⟩), (8, some ⟨1, [ints own], 0, true⟩), (10, some ⟨1, [.sl 34 0 0 own.length], 0, true⟩), (34, some ⟨3, rowsB (addN 17 i m fb r) own.length, 0, false⟩)]⟩)
              (fun q => 3 - q) (fun q => q ≤ 3) 0 (by decide) (by simp [leastN]) ?_
            intro q Q5 hq35 hq5 he5 hr5
            have hlb := leastN_bound (M := 17) (f := fb i) (r := r) (by decide) (fun q => (hfb i q).1) q
            have hq6 := hq5 (q + 1)
            rw [leastN] at hq6
            by_cases h2 : q < 3
            · have hqc : q = 0 ∨ q = 1 ∨ q = 2 := by omega
              generalize leastN 17 (fb i) r q = S at hlb hq6
              rcases hqc with rfl | rfl | rfl
              · try simp 
                refine CondK.tt ?_
                try simp 
                repeat (refine PreK.intro (by first | omega | (intros; first | omega | (refine ⟨by omega, ?_⟩; simp_all; done) | (simp_all; done) | (simp_all; omega))) fun _ => ?_; (try simp ))
                refine CondK.intro (fun h3 => ?_) (fun h3 => ?_)
                · have hdd : dd ((0 : Nat) : Int) r = 1 := by unfold dd; rw [if_neg (by simp at h3; omega)]
                  rw [hdd, Int.min_def] at hq6
                  repeat (refine PreK.intro (by first | omega | (intros; first | omega | (refine ⟨by omega, ?_⟩; simp_all; done) | (simp_all; done) | (simp_all; omega))) fun _ => ?_; (try simp ))
                  have hmm : (if fb i 0 + 1 < S then fb i 0 + 1 else S) = if S ≤ fb i ((0 : Nat) : Int) + 1 then S else fb i ((0 : Nat) : Int) + 1 := by
                    by_cases hc : fb i 0 + 1 < S
                    · rw [if_pos hc, if_neg (by simpa using hc)]; rfl
                    · rw [if_neg hc, if_pos (by simpa using hc)]
                  rw [← hmm] at hq6
                  exact hq6 _ (by omega) (by omega) (by simp)
                · have hdd : dd ((0 : Nat) : Int) r = 0 := by unfold dd; rw [if_pos (by simp at h3; omega)]
                  rw [hdd, Int.min_def] at hq6
                  repeat (refine PreK.intro (by first | omega | (intros; first | omega | (refine ⟨by omega, ?_⟩; simp_all; done) | (simp_all; done) | (simp_all; omega))) fun _ => ?_; (try simp ))
                  have hmm : (if fb i 0 < S then fb i 0 else S) = if S ≤ fb i ((0 : Nat) : Int) + 0 then S else fb i ((0 : Nat) : Int) + 0 := by
                    by_cases hc : fb i 0 < S
                    · rw [if_pos hc, if_neg (by simpa using hc)]; simp
                    · rw [if_neg hc, if_pos (by simpa using hc)]
                  rw [← hmm] at hq6
                  exact hq6 _ (by omega) (by omega) (by simp)
              · try simp 
                refine CondK.tt ?_
                try simp 
                repeat (refine PreK.intro (by first | omega | (intros; first | omega | (refine ⟨by omega, ?_⟩; simp_all; done) | (simp_all; done) | (simp_all; omega))) fun _ => ?_; (try simp ))
                refine CondK.intro (fun h3 => ?_) (fun h3 => ?_)
                · have hdd : dd ((1 : Nat) : Int) r = 1 := by unfold dd; rw [if_neg (by simp at h3; omega)]
                  rw [hdd, Int.min_def] at hq6
                  repeat (refine PreK.intro (by first | omega | (intros; first | omega | (refine ⟨by omega, ?_⟩; simp_all; done) | (simp_all; done) | (simp_all; omega))) fun _ => ?_; (try simp ))
                  have hmm : (if fb i 1 + 1 < S then fb i 1 + 1 else S) = if S ≤ fb i ((1 : Nat) : Int) + 1 then S else fb i ((1 : Nat) : Int) + 1 := by
                    by_cases hc : fb i 1 + 1 < S
                    · rw [if_pos hc, if_neg (by simpa using hc)]; rfl
                    · rw [if_neg hc, if_pos (by simpa using hc)]
                  rw [← hmm] at hq6
                  exact hq6 _ (by omega) (by omega) (by simp)
                · have hdd : dd ((1 : Nat) : Int) r = 0 := by unfold dd; rw [if_pos (by simp at h3; omega)]
                  rw [hdd, Int.min_def] at hq6
                  repeat (refine PreK.intro (by first | omega | (intros; first | omega | (refine ⟨by omega, ?_⟩; simp_all; done) | (simp_all; done) | (simp_all; omega))) fun _ => ?_; (try simp ))
                  have hmm : (if fb i 1 < S then fb i 1 else S) = if S ≤ fb i ((1 : Nat) : Int) + 0 then S else fb i ((1 : Nat) : Int) + 0 := by
                    by_cases hc : fb i 1 < S
                    · rw [if_pos hc, if_neg (by simpa using hc)]; simp
                    · rw [if_neg hc, if_pos (by simpa using hc)]
                  rw [← hmm] at hq6
                  exact hq6 _ (by omega) (by omega) (by simp)
              · try simp 
                refine CondK.tt ?_
                try simp 
                repeat (refine PreK.intro (by first | omega | (intros; first | omega | (refine ⟨by omega, ?_⟩; simp_all; done) | (simp_all; done) | (simp_all; omega))) fun _ => ?_; (try simp ))
                refine CondK.intro (fun h3 => ?_) (fun h3 => ?_)
                · have hdd : dd ((2 : Nat) : Int) r = 1 := by unfold dd; rw [if_neg (by simp at h3; omega)]
                  rw [hdd, Int.min_def] at hq6
                  repeat (refine PreK.intro (by first | omega | (intros; first | omega | (refine ⟨by omega, ?_⟩; simp_all; done) | (simp_all; done) | (simp_all; omega))) fun _ => ?_; (try simp ))
                  have hmm : (if fb i 2 + 1 < S then fb i 2 + 1 else S) = if S ≤ fb i ((2 : Nat) : Int) + 1 then S else fb i ((2 : Nat) : Int) + 1 := by
                    by_cases hc : fb i 2 + 1 < S
                    · rw [if_pos hc, if_neg (by simpa using hc)]; rfl
                    · rw [if_neg hc, if_pos (by simpa using hc)]
                  rw [← hmm] at hq6
                  exact hq6 _ (by omega) (by omega) (by simp)
                · have hdd : dd ((2 : Nat) : Int) r = 0 := by unfold dd; rw [if_pos (by simp at h3; omega)]
                  rw [hdd, Int.min_def] at hq6
                  repeat (refine PreK.intro (by first | omega | (intros; first | omega | (refine ⟨by omega, ?_⟩; simp_all; done) | (simp_all; done) | (simp_all; omega))) fun _ => ?_; (try simp ))
                  have hmm : (if fb i 2 < S then fb i 2 else S) = if S ≤ fb i ((2 : Nat) : Int) + 0 then S else fb i ((2 : Nat) : Int) + 0 := by
                    by_cases hc : fb i 2 < S
                    · rw [if_pos hc, if_neg (by simpa using hc)]; simp
                    · rw [if_neg hc, if_pos (by simpa using hc)]
                  rw [← hmm] at hq6
                  exact hq6 _ (by omega) (by omega) (by simp)
            · obtain rfl : q = 3 := by omega
              try simp 
              refine CondK.ff ?_
              try simp 
              apply he5
              rw [leastN_all] at hlb
              have hml : m < own.length := by omega
              first | rw [leastN_all] | skip
              generalize addN 17 i m fb (r : Int) = c at hlen hnth hnm hci hcm hq4
              generalize leastF 17 (fb i) r = LL at hlb hq4
              have hrc : r = 0 ∨ r = 1 ∨ r = 2 := by omega
              rcases hrc with rfl | rfl | rfl
              all_goals
                simp at hcm hfm
                try simp [hml, hlen, hnm, hcm]
                repeat (refine PreK.intro (by first | omega | (intros; first | omega | (refine ⟨by omega, ?_⟩; simp_all; done) | (simp_all; done) | (simp_all; omega))) fun _ => ?_; (try simp [hml, hlen, hnm, hcm]))
                exact hq4 _ (by omega) (by omega) (by simp; exact .inl (rowsB_set _ _ _ (fun j _ hne => by simp [hne]) (by simp)))
          · have h1' : ¬ (r : Int) < 3 := by omega
            obtain rfl : r = 3 := by omega
            try simp [h1']
            repeat (refine PreK.intro (by first | omega | (intros; first | omega | (refine ⟨by omega, ?_⟩; simp_all; done) | (simp_all; done) | (simp_all; omega))) fun _ => ?_; (try simp [h1']))
            refine CondK.ff ?_
            try simp 
            apply he3
            have hri : own.length - (k + 1) = i := by omega
            refine hn (dpStep 17 (alM own) (pf par) i b) _ ⟨by omega, by rw [hri]; exact hrun, fun j r => ⟨(hsb j r).1, by have := (hsb j r).2; omega⟩⟩ ?_
            simp
            exact hadd
    · rintro b ⟨h, _⟩
      rw [backL_len] at h
      omega
end Go.Proofs.Ytnpkaemlidifgaa
end

section
/- PURSE -/
/- Contracts: the document's smallest number of changes. -/
namespace Go.Proofs.Ytnpkaemlidifgaa
open Go.Abs Go
set_option maxRecDepth 20000
set_option maxHeartbeats 8000000
attribute [local irreducible] PreK CondK CallK CallG CallX LoopK
attribute [local simp] avsEq avEq akind teq vkind vEq

end Go.Proofs.Ytnpkaemlidifgaa
end

section
/- Contracts: the fewest changes, readings, totals, claimed readings, copies apart; by both ways. -/
namespace Go.Proofs.Ytnpkaemlidifgaa
open Go.Abs Go
set_option maxRecDepth 20000
set_option maxHeartbeats 2000000
attribute [local irreducible] PreK CondK CallK CallG CallX LoopK
attribute [local simp] avsEq avEq akind teq vkind vEq

theorem fits_zero {t : List (List Int)} {par ats ps : List Int} (h : fitsErr t par ats ps = 0) : Rds t ∧ Treed par ats ∧ ats.length = t.length ∧ placedErr t ps = 0 ∧ treedErr t par ats = 0 := by
  unfold fitsErr at h
  split at h
  · rename_i h1; exact absurd h h1
  · rename_i h1
    have h1' : treedErr t par ats = 0 := by simpa using h1
    have h2 := h1'
    unfold treedErr at h2
    split at h2
    · rename_i h3; exact absurd h2 h3
    · rename_i h3
      split at h2
      · rename_i h4; exact absurd h2 h4
      · rename_i h4
        split at h2
        · cases h2
        · rename_i h5
          exact ⟨vErr_zero (by simpa using h3), treeErr_zero (by simpa using h4), by simpa using h5, h, h1'⟩
def FewR (t : List (List Int)) (par ats : List Int) (p : Int) : Int × Bool × Int :=
  if fitsErr t par ats [p] ≠ 0 then (0, false, fitsErr t par ats [p]) else match bestR par (prs t ats p.toNat) with | some o => (chgM par o, true, 0) | none => (0, false, 0)
theorem Fewest_c (t : List (List Int)) (par ats : List Int) (p : Int) (h : Sm t) (hp : par.length ≤ 1000) (ha : ats.length ≤ 1000) :
    CallP Try.prog 21 [rdsV t, treeV par ats, iv p] (.tup [iv (FewR t par ats p).1, bv (FewR t par ats p).2.1, iv (FewR t par ats p).2.2]) := by
  refine C21 (by simp) ?_
  have hf := fits_c t par ats [p] h hp ha (by simp)
  simp [A21]
  refine CallX.pure (CallP.weak (by simpa [weakL, weak] using hf)) (by simp) (by simp) ?_
  try simp 
  refine CondK.intro (fun h1 => ?_) (fun h1 => ?_)
  · simp at h1
    simp [FewR, h1]
  · simp at h1
    obtain ⟨hr, hx, hl, hpl, _⟩ := fits_zero h1
    obtain ⟨n, rfl, hn⟩ := placed_nat hpl (List.mem_singleton.2 rfl)
    have hb := best_c t par ats n hr hx hl hn
    have hR : FewR t par ats n = match bestR par (prs t ats n) with | some o => (chgM par o, true, 0) | none => (0, false, 0) := by unfold FewR; rw [if_neg (by simp [h1])]; rfl
    rw [hR]
    cases hbr : bestR par (prs t ats n) with
    | none =>
      rw [hbr] at hb
      try simp 
      repeat' (first
        | (refine CallX.pure (hb) (by simp) (by simp) ?_; try simp )
        | (refine CallK.intro (hb) (by simp) (by simp) ?_; try simp )
        | (refine CallG.intro (fun _ => hb) (by simp) (by simp) ?_; try simp )
        | ((with_reducible refine PreK.intro ?_ ?_); (next => (first | omega | (intros; first | omega | (refine ⟨by omega, ?_⟩; repeat (first | assumption | constructor)) | assumption))); intro _; try simp )
        | fail)
      refine CondK.tt ?_
      try simp 
    | some o =>
      rw [hbr] at hb
      have hol := (best_fits hr hx hl hn hbr).1
      try simp 
      repeat' (first
        | (refine CallX.pure (hb) (by simp) (by simp) ?_; try simp )
        | (refine CallK.intro (hb) (by simp) (by simp) ?_; try simp )
        | (refine CallG.intro (fun _ => hb) (by simp) (by simp) ?_; try simp )
        | ((with_reducible refine PreK.intro ?_ ?_); (next => (first | omega | (intros; first | omega | (refine ⟨by omega, ?_⟩; repeat (first | assumption | constructor)) | assumption))); intro _; try simp )
        | fail)
      refine CondK.ff ?_
      try simp 
      try simp 
      repeat' (first
        | (refine CallX.pure (changes_c par ats o hx hol) (by simp) (by simp) ?_; try simp )
        | (refine CallK.intro (changes_c par ats o hx hol) (by simp) (by simp) ?_; try simp )
        | (refine CallG.intro (fun _ => changes_c par ats o hx hol) (by simp) (by simp) ?_; try simp )
        | ((with_reducible refine PreK.intro ?_ ?_); (next => (first | omega | (intros; first | omega | (refine ⟨by omega, ?_⟩; repeat (first | assumption | constructor)) | assumption))); intro _; try simp )
        | fail)
def ApartR (t : List (List Int)) (i j : Int) : Int × Int := if copyErr t i ≠ 0 then (0, copyErr t i) else if copyErr t j ≠ 0 then (0, copyErr t j) else ((apartF (el t i.toNat) (el t j.toNat) 0 (wid t) : Nat), 0)
theorem copy_nat {t : List (List Int)} {i : Int} (h : copyErr t i = 0) : vErr t = 0 ∧ ∃ n : Nat, i = (n : Int) ∧ n < t.length := by
  unfold copyErr at h
  split at h
  · rename_i h1; exact absurd h h1
  · rename_i h1
    split at h
    · rename_i h2
      simp at h2
      exact ⟨by simpa using h1, i.toNat, by omega, by omega⟩
    · cases h
theorem Apart_c (t : List (List Int)) (i j : Int) (h : Sm t) : CallP Try.prog 29 [rdsV t, iv i, iv j] (.tup [iv (ApartR t i j).1, iv (ApartR t i j).2]) := by
  refine C29 (by simp) ?_
  have hn := h.num
  simp [A29]
  try simp 
  repeat' (first
    | (refine CallX.pure (Validate_c t h) (by simp) (by simp) ?_; try simp )
    | (refine CallK.intro (Validate_c t h) (by simp) (by simp) ?_; try simp )
    | (refine CallG.intro (fun _ => Validate_c t h) (by simp) (by simp) ?_; try simp )
    | ((with_reducible refine PreK.intro ?_ ?_); (next => (first | omega | (intros; first | omega | (refine ⟨by omega, ?_⟩; repeat (first | assumption | constructor)) | assumption))); intro _; try simp )
    | fail)
  refine CondK.intro (fun h1 => ?_) (fun h1 => ?_)
  · simp at h1
    simp [ApartR, copyErr, h1]
  · simp at h1
    have hr := vErr_zero h1
    have hw1 := swithin_c i 0 ((t.length : Int) - 1)
    have hw2 := swithin_c j 0 ((t.length : Int) - 1)
    by_cases h2 : 0 ≤ i ∧ i ≤ (t.length : Int) - 1
    · have ei : copyErr t i = 0 := by unfold copyErr; rw [if_neg (by simp [h1]), if_pos (by simp [h2])]
      simp only [h2.1, h2.2, decide_true, Bool.and_true] at hw1
      by_cases h3 : 0 ≤ j ∧ j ≤ (t.length : Int) - 1
      · have ej : copyErr t j = 0 := by unfold copyErr; rw [if_neg (by simp [h1]), if_pos (by simp [h3])]
        simp only [h3.1, h3.2, decide_true, Bool.and_true] at hw2
        obtain ⟨_, n, rfl, hnl⟩ := copy_nat ei
        obtain ⟨_, m, rfl, hml⟩ := copy_nat ej
        have hR : ApartR t n m = (((apartF (el t n) (el t m) 0 (wid t) : Nat) : Int), 0) := by simp [ApartR, ei, ej]
        rw [hR]
        have e0 : 0 < t.length := hr.pos
        have hwd : (el t 0).length = wid t := rfl
        have hw6 := hr.w6
        have hrn := hr.row hnl
        have hrm := hr.row hml
        generalize hA : apartF (el t n) (el t m) 0 (wid t) = A
        try simp 
        repeat' (first
          | (refine CallX.pure (hw1) (by simp) (by simp) ?_; try simp )
          | (refine CallK.intro (hw1) (by simp) (by simp) ?_; try simp )
          | (refine CallG.intro (fun _ => hw1) (by simp) (by simp) ?_; try simp )
          | (refine CallX.pure (hw2) (by simp) (by simp) ?_; try simp )
          | (refine CallK.intro (hw2) (by simp) (by simp) ?_; try simp )
          | (refine CallG.intro (fun _ => hw2) (by simp) (by simp) ?_; try simp )
          | ((with_reducible refine PreK.intro ?_ ?_); (next => (first | omega | (intros; first | omega | (refine ⟨by omega, ?_⟩; repeat (first | assumption | constructor)) | assumption))); intro _; try simp )
          | fail)
        refine CondK.ff ?_
        try simp 
        try simp [e0, hwd]
        repeat (refine PreK.intro (by first | omega | (intros; first | omega | (refine ⟨by omega, ?_⟩; simp_all; done) | (simp_all; done) | (simp_all; omega))) fun _ => ?_; (try simp [e0, hwd]))
        refine LoopK.by (ι := Nat × Nat) (fun x => ⟨[(34, iv x.1), (33, iv (wid t)), (9, iv x.2), (0, rdsV t), (1, iv n), (2, iv m)], []⟩) (fun x => wid t - x.1)
          (fun x => x.1 ≤ wid t ∧ x.2 ≤ x.1 ∧ x.2 + apartF (el t n) (el t m) x.1 (wid t - x.1) = A) (0, 0) ⟨Nat.zero_le _, Nat.le_refl _, by simpa using hA⟩ (by simp) ?_
        intro ⟨p, c⟩ Q' ⟨hpw, hcp, hc⟩ hq he hr'
        dsimp only at hpw hcp hc
        try simp 
        refine CondK.intro (fun h4 => ?_) (fun h4 => ?_)
        · simp at h4
          have h5 : p < (el t n).length := by omega
          have h6 : p < (el t m).length := by omega
          rw [show wid t - p = (wid t - (p + 1)) + 1 by omega, apartF] at hc
          try simp [hnl, hml, h5, h6]
          repeat (refine PreK.intro (by first | omega | (intros; first | omega | (refine ⟨by omega, ?_⟩; simp_all; done) | (simp_all; done) | (simp_all; omega))) fun _ => ?_; (try simp [hnl, hml, h5, h6]))
          refine CondK.intro (fun h7 => ?_) (fun h7 => ?_)
          · simp at h7
            rw [if_pos h7] at hc
            repeat (refine PreK.intro (by first | omega | (intros; first | omega | (refine ⟨by omega, ?_⟩; simp_all; done) | (simp_all; done) | (simp_all; omega))) fun _ => ?_; (try simp ))
            exact hq (p + 1, c + 1) _ ⟨by dsimp only; omega, by dsimp only; omega, by dsimp only; omega⟩ (by dsimp only; omega) (by simp)
          · simp at h7
            rw [if_neg (by simpa using h7)] at hc
            repeat (refine PreK.intro (by first | omega | (intros; first | omega | (refine ⟨by omega, ?_⟩; simp_all; done) | (simp_all; done) | (simp_all; omega))) fun _ => ?_; (try simp ))
            exact hq (p + 1, c) _ ⟨by dsimp only; omega, by dsimp only; omega, by dsimp only; omega⟩ (by dsimp only; omega) (by simp)
        · simp at h4
          have : p = wid t := by omega
          subst this
          simp only [Nat.sub_self, apartF, Nat.add_zero] at hc
          subst hc
          try simp 
          apply he
          try simp 
      · have e2 : (decide (0 ≤ j) && decide (j ≤ (t.length : Int) - 1)) = false := by simp; omega
        have ej : copyErr t j = 4 := by unfold copyErr; rw [if_neg (by simp [h1]), if_neg (by rw [e2]; simp)]
        have hR : ApartR t i j = (0, 4) := by simp [ApartR, ei, ej]
        rw [hR]
        rw [e2] at hw2
        try simp 
        repeat' (first
          | (refine CallX.pure (hw1) (by simp) (by simp) ?_; try simp )
          | (refine CallK.intro (hw1) (by simp) (by simp) ?_; try simp )
          | (refine CallG.intro (fun _ => hw1) (by simp) (by simp) ?_; try simp )
          | (refine CallX.pure (hw2) (by simp) (by simp) ?_; try simp )
          | (refine CallK.intro (hw2) (by simp) (by simp) ?_; try simp )
          | (refine CallG.intro (fun _ => hw2) (by simp) (by simp) ?_; try simp )
          | ((with_reducible refine PreK.intro ?_ ?_); (next => (first | omega | (intros; first | omega | (refine ⟨by omega, ?_⟩; repeat (first | assumption | constructor)) | assumption))); intro _; try simp )
          | fail)
        refine CondK.tt ?_
        try simp 
    · have e2 : (decide (0 ≤ i) && decide (i ≤ (t.length : Int) - 1)) = false := by simp; omega
      have ei : copyErr t i = 4 := by unfold copyErr; rw [if_neg (by simp [h1]), if_neg (by rw [e2]; simp)]
      have hR : ApartR t i j = (0, 4) := by simp [ApartR, ei]
      rw [hR]
      rw [e2] at hw1
      try simp 
      repeat' (first
        | (refine CallX.pure (hw1) (by simp) (by simp) ?_; try simp )
        | (refine CallK.intro (hw1) (by simp) (by simp) ?_; try simp )
        | (refine CallG.intro (fun _ => hw1) (by simp) (by simp) ?_; try simp )
        | (refine CallX.pure (hw2) (by simp) (by simp) ?_; try simp )
        | (refine CallK.intro (hw2) (by simp) (by simp) ?_; try simp )
        | (refine CallG.intro (fun _ => hw2) (by simp) (by simp) ?_; try simp )
        | ((with_reducible refine PreK.intro ?_ ?_); (next => (first | omega | (intros; first | omega | (refine ⟨by omega, ?_⟩; repeat (first | assumption | constructor)) | assumption))); intro _; try simp )
        | fail)
      refine CondK.tt ?_
      try simp 
end Go.Proofs.Ytnpkaemlidifgaa
end

section
/- Contracts: claimed readings; the sanity check; what is too long; equal lists. -/
namespace Go.Proofs.Ytnpkaemlidifgaa
open Go.Abs Go
set_option maxRecDepth 20000
set_option maxHeartbeats 2000000
attribute [local irreducible] PreK CondK CallK CallG CallX LoopK
attribute [local simp] avsEq avEq akind teq vkind vEq

/-! ### the law's own -/
theorem sane7_c : CallP Try.prog 20 [] (bv true) := by
  refine C20 (by simp) ?_
  have s1 : Sm [[0, 0], [0, 1], [1, 0], [1, 1]] := ⟨by decide, by decide⟩
  have s2 : Sm [[0, 0], [0, 1], [1, 0]] := ⟨by decide, by decide⟩
  have s3 : Sm [[0], [1]] := ⟨by decide, by decide⟩
  have s4 : Sm [[0], [1], [2]] := ⟨by decide, by decide⟩
  have c1 := Conflict_c _ 0 1 s1
  have c2 := Conflict_c _ 0 1 s2
  have c3 := Fewest_c _ [-1, 0, 0] [1, 2] 0 s3 (by decide) (by decide)
  have c4 := Different_c _ 0 s4
  have e1 : ConfR [[0, 0], [0, 1], [1, 0], [1, 1]] 0 1 = (true, 0) := by kernel_rfl
  have e2 : ConfR [[0, 0], [0, 1], [1, 0]] 0 1 = (false, 0) := by kernel_rfl
  have e3 : FewR [[0], [1]] [-1, 0, 0] [1, 2] 0 = (1, true, 0) := by kernel_rfl
  have e4 : DiffR [[0], [1], [2]] 0 = (3, 0) := by kernel_rfl
  rw [e1] at c1
  rw [e2] at c2
  rw [e3] at c3
  rw [e4] at c4
  simp [A20]
  refine CallX.pure (CallP.weak (by simpa [weakL, weak] using c1)) (by simp) (by simp) ?_
  try simp 
  refine CallX.pure (CallP.weak (by simpa [weakL, weak] using c2)) (by simp) (by simp) ?_
  try simp 
  refine CallX.pure (CallP.weak (by simpa [weakL, weak] using c3)) (by simp) (by simp) ?_
  try simp 
  refine CallX.pure (CallP.weak (by simpa [weakL, weak] using c4)) (by simp) (by simp) ?_
  try simp 
def longT (t : List (List Int)) : Bool := (t.any fun r => decide (50 < r.length)) || decide (50 < t.length)
theorem Long7_c (t : List (List Int)) (h : t.length ≤ big) : CallP Try.prog 18 [rdsV t] (bv (longT t)) := by
  refine C18 (by simp) ?_
  generalize hR : longT t = R
  unfold longT at hR
  simp only [big] at h
  simp [A18]
  refine LoopK.by (ι := Nat) (fun i => ⟨[(3, iv i), (0, rdsV t)], []⟩) (fun i => t.length - i) (fun i => i ≤ t.length ∧ (((t.drop i).any fun r => decide (50 < r.length)) || decide (50 < t.length)) = R) 0 ⟨Nat.zero_le _, hR⟩ (by simp) ?_
  intro i Q' ⟨hi, hc⟩ hq he hr
  try simp 
  refine CondK.intro (fun h1 => ?_) (fun h1 => ?_)
  · simp at h1
    rw [drop_cons t i h1, List.any_cons] at hc
    try simp [h1]
    repeat (refine PreK.intro (by first | omega | (intros; first | omega | (refine ⟨by omega, ?_⟩; simp_all; done) | (simp_all; done) | (simp_all; omega))) fun _ => ?_; (try simp [h1]))
    refine CondK.intro (fun h2 => ?_) (fun h2 => ?_)
    · have e : decide (50 < (el t i).length) = true := by simp at h2; simp; omega
      rw [e] at hc
      simp only [Bool.true_or] at hc
      subst hc
      try simp 
      apply hr
      try simp 
    · have e : decide (50 < (el t i).length) = false := by simp at h2; simp; omega
      rw [e] at hc
      simp only [Bool.false_or] at hc
      repeat (refine PreK.intro (by first | omega | (intros; first | omega | (refine ⟨by omega, ?_⟩; simp_all; done) | (simp_all; done) | (simp_all; omega))) fun _ => ?_; (try simp ))
      exact hq (i + 1) _ ⟨by omega, hc⟩ (by omega) (by simp)
  · simp at h1
    rw [List.drop_eq_nil_of_le (by omega)] at hc
    simp only [List.any_nil, Bool.false_or] at hc
    subst hc
    try simp 
    apply he
    try simp 
    try omega
theorem longT_small {t : List (List Int)} (h : longT t = false) : Sm t ∧ t.length ≤ 50 ∧ ∀ r ∈ t, r.length ≤ 50 := by
  unfold longT at h
  simp only [Bool.or_eq_false_iff, List.any_eq_false, decide_eq_true_eq, decide_eq_false_iff_not] at h
  exact ⟨⟨by omega, fun r hr => by have := h.1 r hr; omega⟩, by omega, fun r hr => by have := h.1 r hr; omega⟩
theorem same7_c (a b : List Int) (ha : a.length ≤ big) : CallP Try.prog 36 [ints a, ints b] (bv (decide (a = b))) := by
  refine C36 (by simp) ?_
  simp only [big] at ha
  generalize hR : decide (a = b) = R
  simp [A36]
  refine CondK.intro (fun h => ?_) (fun h => ?_)
  · simp at h
    have : a ≠ b := fun e => h (by rw [e])
    simp [this] at hR
    simp [hR]
  · simp at h
    try simp 
    refine LoopK.by (fun i : Nat => ⟨[(5, iv i), (0, ints a), (1, ints b)], []⟩) (fun i => a.length - i) (fun i => i ≤ a.length ∧ decide (a.drop i = b.drop i) = R) 0 (by simpa using hR) (by simp) ?_
    intro i Q' ⟨hi, hc⟩ hq he hr
    try simp 
    refine CondK.intro (fun h2 => ?_) (fun h2 => ?_)
    · simp at h2
      have h2b : i < b.length := by omega
      rw [drop_cons a i h2, drop_cons b i h2b] at hc
      try simp [h2, h2b]
      repeat (refine PreK.intro (by first | omega | (intros; first | omega | (refine ⟨by omega, ?_⟩; simp_all; done) | (simp_all; done) | (simp_all; omega))) fun _ => ?_; (try simp [h2, h2b]))
      refine CondK.intro (fun h3 => ?_) (fun h3 => ?_)
      · simp at h3
        simp [h3] at hc
        try simp 
        apply hr
        simp [hc]
      · simp at h3
        simp [h3] at hc
        repeat (refine PreK.intro (by first | omega | (intros; first | omega | (refine ⟨by omega, ?_⟩; simp_all; done) | (simp_all; done) | (simp_all; omega))) fun _ => ?_; (try simp ))
        exact hq (i + 1) _ ⟨by omega, by simpa using hc⟩ (by omega) (by simp)
    · simp at h2
      rw [List.drop_eq_nil_of_le (by omega), List.drop_eq_nil_of_le (by omega)] at hc
      simp at hc
      try simp 
      apply he
      simp [hc]
theorem nth_pair (l : List (Nat × Nat)) {k : Nat} (h : k < l.length) : nth (l.map pairV) k = .agg [.raw (.int .i64 ((el l k).1 : Int)), .raw (.int .i64 ((el l k).2 : Int))] := by
  have := nth_map pairV l k h
  simpa using this
theorem samePairs_c (a b : List (Nat × Nat)) (ha : a.length ≤ 1000) : CallP Try.prog 43 [pairsV a, pairsV b] (bv (decide (a = b))) := by
  refine C43 (by simp) ?_
  generalize hR : decide (a = b) = R
  simp [A43]
  refine CondK.intro (fun h => ?_) (fun h => ?_)
  · simp at h
    have : a ≠ b := fun e => h (by rw [e])
    simp [this] at hR
    simp [hR]
  · simp at h
    try simp 
    refine LoopK.by (fun i : Nat => ⟨[(5, iv i), (0, pairsV a), (1, pairsV b)], []⟩) (fun i => a.length - i) (fun i => i ≤ a.length ∧ decide (a.drop i = b.drop i) = R) 0 (by simpa using hR) (by simp) ?_
    intro i Q' ⟨hi, hc⟩ hq he hr
    try simp 
    refine CondK.intro (fun h2 => ?_) (fun h2 => ?_)
    · simp at h2
      have h2b : i < b.length := by omega
      have n1 := nth_pair a h2
      have n2 := nth_pair b h2b
      rw [drop_cons a i h2, drop_cons b i h2b] at hc
      try simp [h2, h2b, n1, n2]
      repeat (refine PreK.intro (by first | omega | (intros; first | omega | (refine ⟨by omega, ?_⟩; simp_all; done) | (simp_all; done) | (simp_all; omega))) fun _ => ?_; (try simp [h2, h2b, n1, n2]))
      refine CondK.intro (fun h3 => ?_) (fun h3 => ?_)
      · have h3' : el a i ≠ el b i := by
          intro e
          simp [e] at h3
        simp [h3'] at hc
        try simp 
        apply hr
        simp [hc]
      · have h3' : el a i = el b i := by
          simp at h3
          exact Prod.ext (by omega) (by omega)
        simp [h3'] at hc
        repeat (refine PreK.intro (by first | omega | (intros; first | omega | (refine ⟨by omega, ?_⟩; simp_all; done) | (simp_all; done) | (simp_all; omega))) fun _ => ?_; (try simp ))
        exact hq (i + 1) _ ⟨by omega, by simpa using hc⟩ (by omega) (by simp)
    · simp at h2
      rw [List.drop_eq_nil_of_le (by omega), List.drop_eq_nil_of_le (by omega)] at hc
      simp at hc
      try simp 
      apply he
      simp [hc]
end Go.Proofs.Ytnpkaemlidifgaa
end

section
/- Contracts: slices.Delete of one element; a copy less; the statement StemmaLoses. -/
namespace Go.Proofs.Ytnpkaemlidifgaa
open Go.Abs Go
set_option maxRecDepth 20000
set_option maxHeartbeats 2000000
attribute [local irreducible] PreK CondK CallK CallG CallX LoopK
attribute [local simp] avsEq avEq akind teq vkind vEq

theorem same07_c (a b : List (List Int)) (ha : a.length ≤ big) (hw : ∀ x ∈ a, x.length ≤ big) : CallP Try.prog 46 [rdsV a, rdsV b] (bv (decide (a = b))) := by
  refine C46 (by simp) ?_
  generalize hR : decide (a = b) = R
  simp only [big] at ha
  simp [A46]
  refine CondK.intro (fun h => ?_) (fun h => ?_)
  · simp at h
    have : a ≠ b := fun e => h (by rw [e])
    simp [this] at hR
    simp [hR]
  · simp at h
    try simp 
    refine LoopK.by (fun i : Nat => ⟨[(5, iv i), (0, rdsV a), (1, rdsV b)], []⟩) (fun i => a.length - i) (fun i => i ≤ a.length ∧ decide (a.drop i = b.drop i) = R) 0 (by simpa using hR) (by simp) ?_
    intro i Q' ⟨hi, hc⟩ hq he hr
    try simp 
    refine CondK.intro (fun h2 => ?_) (fun h2 => ?_)
    · simp at h2
      have h2b : i < b.length := by omega
      have hs := same7_c (el a i) (el b i) (hw _ (el_mem_of a i h2))
      rw [drop_cons a i h2, drop_cons b i h2b] at hc
      repeat (refine PreK.intro (by first | omega | (intros; first | omega | (refine ⟨by omega, ?_⟩; simp_all; done) | (simp_all; done) | (simp_all; omega))) fun _ => ?_; (try simp [h2, h2b]))
      refine CallK.intro (by simpa using hs) (by simp) (by simp) ?_
      try simp 
      repeat (refine PreK.intro (by first | omega | (intros; first | omega | (refine ⟨by omega, ?_⟩; simp_all; done) | (simp_all; done) | (simp_all; omega))) fun _ => ?_; (try simp ))
      refine CondK.intro (fun h3 => ?_) (fun h3 => ?_)
      · simp at h3
        simp [h3] at hc
        try simp 
        apply hr
        simp [hc]
      · simp at h3
        simp [h3] at hc
        repeat (refine PreK.intro (by first | omega | (intros; first | omega | (refine ⟨by omega, ?_⟩; simp_all; done) | (simp_all; done) | (simp_all; omega))) fun _ => ?_; (try simp ))
        exact hq (i + 1) _ ⟨by omega, by simpa using hc⟩ (by omega) (by simp)
    · simp at h2
      rw [List.drop_eq_nil_of_le (by omega), List.drop_eq_nil_of_le (by omega)] at hc
      simp at hc
      try simp 
      apply he
      simp [hc]
end Go.Proofs.Ytnpkaemlidifgaa
end
