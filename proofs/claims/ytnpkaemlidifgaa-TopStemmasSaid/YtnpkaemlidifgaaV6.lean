/- Part 6 of the proof: the value layer and the contracts of the functions that the statement reaches; proved without conditions beyond those each theorem states. -/
import Derived.Test.YtnpkaemlidifgaaV3
import Derived.Test.YtnpkaemlidifgaaV4
import Derived.Test.YtnpkaemlidifgaaV5
set_option linter.unusedSimpArgs false
set_option linter.unusedVariables false

section
/- Contracts: rows that are owned; a place less; the statement StemmaWithout. (drafted by mkstr.py) -/
namespace Go.Proofs.Ytnpkaemlidifgaa
open Go.Abs Go
set_option maxRecDepth 20000
set_option maxHeartbeats 2000000
attribute [local irreducible] PreK CondK CallK CallG CallX LoopK
attribute [local simp] avsEq avEq akind teq vkind vEq

theorem CM84 {args : List AV} {r : AV} {m' : List (Nat × Option Box)} (hn : args.length ≤ 30) (h : vc Try.prog T [] A84 (FinM T [(.tmp 2)] r m') ⟨envOf 0 args, []⟩) : CallM Try.prog 84 args r m' :=
  callM_of tok mixed Try.func84 (by kernel_rfl) (by kernel_rfl) (by kernel_rfl : Try.f84.ntmps = 30) (by kernel_rfl : Try.f84.body.bind (strip 30 (fun _ => [])) = some A84) hn h
/-- The rows that are owned: names and boxes. -/
def rowN (t : List (List Int)) (n : Nat) : List AV := (List.range n).map fun i => .sl (100 + i) 1 0 (el t i).length
def rowM (t : List (List Int)) (n : Nat) : List (Nat × Option Box) := (List.range n).map fun i => (100 + i, some ⟨1, (el t i).map iv, 1, false⟩)
theorem range_succ' (n : Nat) : List.range (n + 1) = List.range n ++ [n] := List.range_succ
theorem renL_app (f : Nat → Nat → Option (Nat × Nat)) : ∀ x y : List AV, renL f (x ++ y) = renL f x ++ renL f y
  | [], y => rfl
  | a :: x, y => by simp [renL_app f x y]
theorem renL_rep (f : Nat → Nat → Option (Nat × Nat)) (e : List AV) (b : Bool) : ∀ n : Nat, renL f (List.replicate n (.seq 1 e b)) = List.replicate n (.seq 1 e b)
  | 0 => rfl
  | n + 1 => by rw [List.replicate_succ, renL, renL_rep f e b n]; rfl
theorem copied_m (t : List (List Int)) (h1 : 1 ≤ t.length) (h6 : t.length ≤ 6) (hw : ∀ i, (el t i).length ≤ 1000) :
    CallM Try.prog 84 [rdsV t] (.sl 8 1 0 t.length) ((8, some ⟨1, rowN t t.length, 1, true⟩) :: rowM t t.length) := by
  refine CM84 (by simp) ?_
  simp [A84]
  try simp 
  repeat (refine PreK.intro (by first | omega | (intros; first | omega | (refine ⟨by omega, ?_⟩; simp_all; done) | (simp_all; done) | (simp_all; omega))) fun _ => ?_; (try simp ))
  refine LoopK.byR (ι := Nat) (fun i => ⟨[(11, iv i), (10, iv t.length), (9, rdsV t), (3, .sl 8 1 0 t.length)], (8, some ⟨1, rowN t i ++ List.replicate (t.length - i) (.seq 1 [] true), 1, true⟩) :: rowM t i⟩) (fun i => t.length - i) (fun i => i ≤ t.length) 0 (Nat.zero_le _) (by simp [rowN, rowM, leEls_refl, refsL_rep]) ?_
  intro i Q' hi hq he hr hfz
  by_cases h2 : i < t.length
  · have hw1 := hw i
    have hi6 : i = 0 ∨ i = 1 ∨ i = 2 ∨ i = 3 ∨ i = 4 ∨ i = 5 := by omega
    rcases hi6 with rfl | rfl | rfl | rfl | rfl | rfl
    · have hrep : List.replicate (t.length - 0) (AV.seq 1 [] true) = AV.seq 1 [] true :: List.replicate (t.length - 1) (AV.seq 1 [] true) := by
        rw [show t.length - 0 = (t.length - 1) + 1 by omega, List.replicate_succ]
      have hlt : 0 < 0 + (t.length - 1 + 1) := by omega
      have h2' : (0 : Int) < t.length := by omega
      have hs0 : (el t 0).length ≤ 1000 := hw1
      simp only [rowN, rowM, range_succ', List.range_zero, List.nil_append, List.map_append, List.map_cons, List.map_nil, List.cons_append]
      rw [hrep]
      try simp [h2, h2']
      repeat (refine PreK.intro (by first | omega | (intros; first | omega | (refine ⟨by omega, ?_⟩; simp_all; done) | (simp_all; done) | (simp_all; omega))) fun _ => ?_; (try simp [h2, h2']))
      refine CondK.intro (fun h3 => ?_) (fun h3 => ?_)
      · try simp [h2, h2']
        repeat (refine PreK.intro (by first | omega | (intros; first | omega | (refine ⟨by omega, ?_⟩; simp_all; done) | (simp_all; done) | (simp_all; omega))) fun _ => ?_; (try simp [h2, h2']))
        refine hq 1 [(20, 100)] _ (by omega) (by omega) ?_
        have hle1 : t.length - 1 = t.length - 1 := rfl
        simp [rowN, rowM, range_succ', leEls_refl, refsL_rep, refsL_app, renL_app, renL_rep]
        done
      · simp at h3
    · have hrep : List.replicate (t.length - 1) (AV.seq 1 [] true) = AV.seq 1 [] true :: List.replicate (t.length - 2) (AV.seq 1 [] true) := by
        rw [show t.length - 1 = (t.length - 2) + 1 by omega, List.replicate_succ]
      have hlt : 1 < 1 + (t.length - 2 + 1) := by omega
      have h2' : (1 : Int) < t.length := by omega
      have hs0 : (el t 1).length ≤ 1000 := hw1
      simp only [rowN, rowM, range_succ', List.range_zero, List.nil_append, List.map_append, List.map_cons, List.map_nil, List.cons_append]
      rw [hrep]
      try simp [h2, h2']
      repeat (refine PreK.intro (by first | omega | (intros; first | omega | (refine ⟨by omega, ?_⟩; simp_all; done) | (simp_all; done) | (simp_all; omega))) fun _ => ?_; (try simp [h2, h2']))
      refine CondK.intro (fun h3 => ?_) (fun h3 => ?_)
      · try simp [h2, h2']
        repeat (refine PreK.intro (by first | omega | (intros; first | omega | (refine ⟨by omega, ?_⟩; simp_all; done) | (simp_all; done) | (simp_all; omega))) fun _ => ?_; (try simp [h2, h2']))
        refine hq 2 [(20, 101)] _ (by omega) (by omega) ?_
        have hle1 : t.length - 2 = t.length - 2 := rfl
        simp [rowN, rowM, range_succ', leEls_refl, refsL_rep, refsL_app, renL_app, renL_rep]
        done
      · simp at h3
    · have hrep : List.replicate (t.length - 2) (AV.seq 1 [] true) = AV.seq 1 [] true :: List.replicate (t.length - 3) (AV.seq 1 [] true) := by
        rw [show t.length - 2 = (t.length - 3) + 1 by omega, List.replicate_succ]
      have hlt : 2 < 2 + (t.length - 3 + 1) := by omega
      have h2' : (2 : Int) < t.length := by omega
      have hs0 : (el t 2).length ≤ 1000 := hw1
      simp only [rowN, rowM, range_succ', List.range_zero, List.nil_append, List.map_append, List.map_cons, List.map_nil, List.cons_append]
      rw [hrep]
      try simp [h2, h2']
      repeat (refine PreK.intro (by first | omega | (intros; first | omega | (refine ⟨by omega, ?_⟩; simp_all; done) | (simp_all; done) | (simp_all; omega))) fun _ => ?_; (try simp [h2, h2']))
      refine CondK.intro (fun h3 => ?_) (fun h3 => ?_)
      · try simp [h2, h2']
        repeat (refine PreK.intro (by first | omega | (intros; first | omega | (refine ⟨by omega, ?_⟩; simp_all; done) | (simp_all; done) | (simp_all; omega))) fun _ => ?_; (try simp [h2, h2']))
        refine hq 3 [(20, 102)] _ (by omega) (by omega) ?_
        have hle1 : t.length - 3 = t.length - 3 := rfl
        simp [rowN, rowM, range_succ', leEls_refl, refsL_rep, refsL_app, renL_app, renL_rep]
        done
      · simp at h3
    · have hrep : List.replicate (t.length - 3) (AV.seq 1 [] true) = AV.seq 1 [] true :: List.replicate (t.length - 4) (AV.seq 1 [] true) := by
        rw [show t.length - 3 = (t.length - 4) + 1 by omega, List.replicate_succ]
      have hlt : 3 < 3 + (t.length - 4 + 1) := by omega
      have h2' : (3 : Int) < t.length := by omega
      have hs0 : (el t 3).length ≤ 1000 := hw1
      simp only [rowN, rowM, range_succ', List.range_zero, List.nil_append, List.map_append, List.map_cons, List.map_nil, List.cons_append]
      rw [hrep]
      try simp [h2, h2']
      repeat (refine PreK.intro (by first | omega | (intros; first | omega | (refine ⟨by omega, ?_⟩; simp_all; done) | (simp_all; done) | (simp_all; omega))) fun _ => ?_; (try simp [h2, h2']))
      refine CondK.intro (fun h3 => ?_) (fun h3 => ?_)
      · try simp [h2, h2']
        repeat (refine PreK.intro (by first | omega | (intros; first | omega | (refine ⟨by omega, ?_⟩; simp_all; done) | (simp_all; done) | (simp_all; omega))) fun _ => ?_; (try simp [h2, h2']))
        refine hq 4 [(20, 103)] _ (by omega) (by omega) ?_
        have hle1 : t.length - 4 = t.length - 4 := rfl
        simp [rowN, rowM, range_succ', leEls_refl, refsL_rep, refsL_app, renL_app, renL_rep]
        done
      · simp at h3
    · have hrep : List.replicate (t.length - 4) (AV.seq 1 [] true) = AV.seq 1 [] true :: List.replicate (t.length - 5) (AV.seq 1 [] true) := by
        rw [show t.length - 4 = (t.length - 5) + 1 by omega, List.replicate_succ]
      have hlt : 4 < 4 + (t.length - 5 + 1) := by omega
      have h2' : (4 : Int) < t.length := by omega
      have hs0 : (el t 4).length ≤ 1000 := hw1
      simp only [rowN, rowM, range_succ', List.range_zero, List.nil_append, List.map_append, List.map_cons, List.map_nil, List.cons_append]
      rw [hrep]
      try simp [h2, h2']
      repeat (refine PreK.intro (by first | omega | (intros; first | omega | (refine ⟨by omega, ?_⟩; simp_all; done) | (simp_all; done) | (simp_all; omega))) fun _ => ?_; (try simp [h2, h2']))
      refine CondK.intro (fun h3 => ?_) (fun h3 => ?_)
      · try simp [h2, h2']
        repeat (refine PreK.intro (by first | omega | (intros; first | omega | (refine ⟨by omega, ?_⟩; simp_all; done) | (simp_all; done) | (simp_all; omega))) fun _ => ?_; (try simp [h2, h2']))
        refine hq 5 [(20, 104)] _ (by omega) (by omega) ?_
        have hle1 : t.length - 5 = t.length - 5 := rfl
        simp [rowN, rowM, range_succ', leEls_refl, refsL_rep, refsL_app, renL_app, renL_rep]
        done
      · simp at h3
    · have hrep : List.replicate (t.length - 5) (AV.seq 1 [] true) = AV.seq 1 [] true :: List.replicate (t.length - 6) (AV.seq 1 [] true) := by
        rw [show t.length - 5 = (t.length - 6) + 1 by omega, List.replicate_succ]
      have hlt : 5 < 5 + (t.length - 6 + 1) := by omega
      have h2' : (5 : Int) < t.length := by omega
      have hs0 : (el t 5).length ≤ 1000 := hw1
      simp only [rowN, rowM, range_succ', List.range_zero, List.nil_append, List.map_append, List.map_cons, List.map_nil, List.cons_append]
      rw [hrep]
      try simp [h2, h2']
      repeat (refine PreK.intro (by first | omega | (intros; first | omega | (refine ⟨by omega, ?_⟩; simp_all; done) | (simp_all; done) | (simp_all; omega))) fun _ => ?_; (try simp [h2, h2']))
      refine CondK.intro (fun h3 => ?_) (fun h3 => ?_)
      · try simp [h2, h2']
        repeat (refine PreK.intro (by first | omega | (intros; first | omega | (refine ⟨by omega, ?_⟩; simp_all; done) | (simp_all; done) | (simp_all; omega))) fun _ => ?_; (try simp [h2, h2']))
        refine hq 6 [(20, 105)] _ (by omega) (by omega) ?_
        have hle1 : t.length - 6 = t.length - 6 := rfl
        simp [rowN, rowM, range_succ', leEls_refl, refsL_rep, refsL_app, renL_app, renL_rep]
        done
      · simp at h3
  · have : i = t.length := by omega
    subst this
    have hn : t.length = 1 ∨ t.length = 2 ∨ t.length = 3 ∨ t.length = 4 ∨ t.length = 5 ∨ t.length = 6 := by omega
    try simp 
    refine CondK.intro (fun h3 => ?_) (fun h3 => ?_)
    · simp at h3
    · try simp 
      apply he
      try simp 
      repeat (refine PreK.intro (by first | omega | (intros; first | omega | (refine ⟨by omega, ?_⟩; simp_all; done) | (simp_all; done) | (simp_all; omega))) fun _ => ?_; (try simp ))
      refine ⟨[], ?_⟩
      rcases hn with h | h | h | h | h | h <;> simp [h, rowN, rowM, range_succ'] <;> done
theorem deleteI_L (l : List Int) (i : Nat) (hi : i < l.length) (hl : l.length ≤ 1000) :
    CallL Try.prog 85 [] 1 (l.map iv) [iv (i : Int), iv ((i : Int) + 1)] (.part (l.length - 1)) ((l.eraseIdx i).map iv ++ [iv 0]) := by
  refine CL85 (by simp) ?_
  simp [A85]
  have hrm : i + (l.length - (i + 1)) ≤ l.length := by omega
  have h1' : i + 1 + (l.length - (i + 1)) ≤ l.length := by omega
  have hs : i + (l.length - (i + 1)) = l.length - 1 := by omega
  have htk : List.take (l.length - (i + 1)) (List.drop (i + 1) (List.map iv l)) = List.drop (i + 1) (List.map iv l) := List.take_of_length_le (by simp)
  try simp [hi]
  repeat (refine PreK.intro (by first | omega | (intros; first | omega | (refine ⟨by omega, ?_⟩; simp_all; done) | (simp_all; done) | (simp_all; omega))) fun _ => ?_; (try simp [hi]))
  refine CondK.intro (fun h1 => ?_) (fun h1 => ?_)
  · simp at h1
    omega
  · try simp [hi, hrm, h1', htk, hs]
    repeat (refine PreK.intro (by first | omega | (intros; first | omega | (refine ⟨by omega, ?_⟩; simp_all; done) | (simp_all; done) | (simp_all; omega))) fun _ => ?_; (try simp [hi, hrm, h1', htk, hs]))
    have e1 : (List.take i (List.map iv l)).length = i := by simp; omega
    have e2 : (List.drop (i + 1) (List.map iv l)).length = l.length - (i + 1) := by simp
    have e3 : (List.drop (l.length - 1) (List.map iv l)).length = 1 := by simp; omega
    rw [del_fin (by omega) e3 (by omega), erase_eq, List.map_append, List.map_take, List.map_drop]
theorem CF51 {args : List AV} {r : AV} (hn : args.length ≤ 41) (h : vc Try.prog T [] A51 (FinF T [(.tmp 4), (.tmp 5)] r) ⟨envOf 0 args, []⟩) : CallP Try.prog 51 args r :=
  callPF_of tok mixed Try.func51 (by kernel_rfl) (by kernel_rfl) (by kernel_rfl : Try.f51.ntmps = 41) (by kernel_rfl : Try.f51.body.bind (strip 41 (fun _ => [])) = some A51) hn h
def namW (t : List (List Int)) (n i : Nat) : List AV := (List.range n).map fun j => .sl (1100 + j) 1 0 (if j < i then (el t j).length - 1 else (el t j).length)
def rowW (t : List (List Int)) (p n i : Nat) : List (Nat × Option Box) := (List.range n).map fun j => (1100 + j, some ⟨1, if j < i then ((el t j).eraseIdx p).map iv ++ [iv 0] else (el t j).map iv, 1, false⟩)
def outW (t : List (List Int)) (p n : Nat) : List AV := (List.range n).map fun j => ints ((el t j).eraseIdx p)
theorem without1 (t : List (List Int)) (p : Nat) (hn : t.length = 1) (hs : Sm t) (hv : placedErr t [(p : Int)] = 0) (hw : ∀ j, (el t j).length ≤ 6) (hr : ∀ j, j < 1 → p < (el t j).length) (h2 : ¬ (el t 0).length = 1) :
    CallP Try.prog 51 [rdsV t, iv (p : Int)] (.tup [.seq 1 (outW t p 1) false, iv 0]) := by
  refine CF51 (by simp) ?_
  have hp := placed_c t [(p : Int)] hs (by simp)
  rw [hv] at hp
  have hcm := copied_m t (by omega) (by omega) (fun j => by have := hw j; omega)
  rw [hn] at hcm
  have hpos : 0 < t.length := by omega
  have h2' : ¬ ((el t 0).length : Int) = 1 := by omega
  have hp6 : p < 6 := by have := hr 0 (by omega); have := hw 0; omega
  simp [A51]
  try simp 
  repeat' (first
    | (refine CallX.pure (hp) (by simp) (by simp) ?_; try simp )
    | (refine CallK.intro (hp) (by simp) (by simp) ?_; try simp )
    | (refine CallG.intro (fun _ => hp) (by simp) (by simp) ?_; try simp )
    | ((with_reducible refine PreK.intro ?_ ?_); (next => (first | omega | (intros; first | omega | (refine ⟨by omega, ?_⟩; repeat (first | assumption | constructor)) | assumption))); intro _; try simp )
    | fail)
  try simp 
  repeat (refine PreK.intro (by first | omega | (intros; first | omega | (refine ⟨by omega, ?_⟩; simp_all; done) | (simp_all; done) | (simp_all; omega))) fun _ => ?_; (try simp ))
  refine CondK.ff ?_
  try simp 
  try simp [hpos, h2, h2']
  repeat (refine PreK.intro (by first | omega | (intros; first | omega | (refine ⟨by omega, ?_⟩; simp_all; done) | (simp_all; done) | (simp_all; omega))) fun _ => ?_; (try simp [hpos, h2, h2']))
  refine CondK.ff ?_
  try simp 
  try simp 
  repeat (refine PreK.intro (by first | omega | (intros; first | omega | (refine ⟨by omega, ?_⟩; simp_all; done) | (simp_all; done) | (simp_all; omega))) fun _ => ?_; (try simp ))
  refine CallX.mem 1000 hcm (by simp) (by simp [rowM, rowN, range_succ']) (by simp [rowM, rowN, range_succ']) ?_
  simp [rowM, rowN, range_succ']
  try simp 
  repeat (refine PreK.intro (by first | omega | (intros; first | omega | (refine ⟨by omega, ?_⟩; simp_all; done) | (simp_all; done) | (simp_all; omega))) fun _ => ?_; (try simp ))
  refine LoopK.by (ι := Nat) (fun i => ⟨[(25, iv i), (24, iv 1), (7, .sl 1008 1 0 1), (1, iv (p : Int))], (1008, some ⟨1, namW t 1 i, 1, true⟩) :: rowW t p 1 i⟩) (fun i => 1 - i) (fun i => i ≤ 1) 0 (Nat.zero_le _) (by simp [namW, rowW, range_succ', leEls_refl]) ?_
  intro i Q' hi hq he hr'
  have hi6 : i = 0 ∨ i = 1 := by omega
  rcases hi6 with rfl | rfl
  · have hpi := hr 0 (by omega)
    have hwi := hw 0
    have hd := deleteI_L (el t 0) p hpi (by omega)
    simp [namW, rowW, range_succ']
    try simp 
    repeat (refine PreK.intro (by first | omega | (intros; first | omega | (refine ⟨by omega, ?_⟩; simp_all; done) | (simp_all; done) | (simp_all; omega))) fun _ => ?_; (try simp ))
    refine CondK.intro (fun h3 => ?_) (fun h3 => ?_)
    · try simp 
      repeat (refine PreK.intro (by first | omega | (intros; first | omega | (refine ⟨by omega, ?_⟩; simp_all; done) | (simp_all; done) | (simp_all; omega))) fun _ => ?_; (try simp ))
      refine CallX.lend [] (id := 1100) (ver := 1) (n := (el t 0).length) (b := ⟨1, (el t 0).map iv, 1, false⟩) [iv (p : Int), iv ((p : Int) + 1)] (.part ((el t 0).length - 1)) _ (by simp) (by simp) (by simp) (by simp) (by simp) (by simp) (by simp) (by simpa using hd) ?_
      try simp 
      repeat (refine PreK.intro (by first | omega | (intros; first | omega | (refine ⟨by omega, ?_⟩; simp_all; done) | (simp_all; done) | (simp_all; omega))) fun _ => ?_; (try simp ))
      exact hq 1 _ (by omega) (by omega) (by simp [namW, rowW, range_succ', leEls_refl])
    · simp at h3
  · simp [namW, rowW, range_succ']
    try simp 
    repeat (refine PreK.intro (by first | omega | (intros; first | omega | (refine ⟨by omega, ?_⟩; simp_all; done) | (simp_all; done) | (simp_all; omega))) fun _ => ?_; (try simp ))
    refine CondK.intro (fun h3 => ?_) (fun h3 => ?_)
    · simp at h3
    · apply he
      try simp 
      repeat (refine PreK.intro (by first | omega | (intros; first | omega | (refine ⟨by omega, ?_⟩; simp_all; done) | (simp_all; done) | (simp_all; omega))) fun _ => ?_; (try simp ))
      refine ⟨[1100, 1008], ?_⟩
      have hl0 : ((el t 0).eraseIdx p).length = (el t 0).length - 1 := List.length_eraseIdx_of_lt (hr 0 (by omega))
      have ht0 : List.take ((el t 0).length - 1) (List.map iv ((el t 0).eraseIdx p) ++ [AV.raw (.int .i64 0)]) = List.map iv ((el t 0).eraseIdx p) := by
        rw [List.take_append_of_le_length (by rw [List.length_map]; omega), List.take_of_length_le (by rw [List.length_map]; omega)]
      have hk0 : (el t 0).length ≤ (el t 0).length - 1 + 1 + 1 := by omega
      simp [hl0, ht0, hk0, outW, range_succ']
      done
theorem without2 (t : List (List Int)) (p : Nat) (hn : t.length = 2) (hs : Sm t) (hv : placedErr t [(p : Int)] = 0) (hw : ∀ j, (el t j).length ≤ 6) (hr : ∀ j, j < 2 → p < (el t j).length) (h2 : ¬ (el t 0).length = 1) :
    CallP Try.prog 51 [rdsV t, iv (p : Int)] (.tup [.seq 1 (outW t p 2) false, iv 0]) := by
  refine CF51 (by simp) ?_
  have hp := placed_c t [(p : Int)] hs (by simp)
  rw [hv] at hp
  have hcm := copied_m t (by omega) (by omega) (fun j => by have := hw j; omega)
  rw [hn] at hcm
  have hpos : 0 < t.length := by omega
  have h2' : ¬ ((el t 0).length : Int) = 1 := by omega
  have hp6 : p < 6 := by have := hr 0 (by omega); have := hw 0; omega
  simp [A51]
  try simp 
  repeat' (first
    | (refine CallX.pure (hp) (by simp) (by simp) ?_; try simp )
    | (refine CallK.intro (hp) (by simp) (by simp) ?_; try simp )
    | (refine CallG.intro (fun _ => hp) (by simp) (by simp) ?_; try simp )
    | ((with_reducible refine PreK.intro ?_ ?_); (next => (first | omega | (intros; first | omega | (refine ⟨by omega, ?_⟩; repeat (first | assumption | constructor)) | assumption))); intro _; try simp )
    | fail)
  try simp 
  repeat (refine PreK.intro (by first | omega | (intros; first | omega | (refine ⟨by omega, ?_⟩; simp_all; done) | (simp_all; done) | (simp_all; omega))) fun _ => ?_; (try simp ))
  refine CondK.ff ?_
  try simp 
  try simp [hpos, h2, h2']
  repeat (refine PreK.intro (by first | omega | (intros; first | omega | (refine ⟨by omega, ?_⟩; simp_all; done) | (simp_all; done) | (simp_all; omega))) fun _ => ?_; (try simp [hpos, h2, h2']))
  refine CondK.ff ?_
  try simp 
  try simp 
  repeat (refine PreK.intro (by first | omega | (intros; first | omega | (refine ⟨by omega, ?_⟩; simp_all; done) | (simp_all; done) | (simp_all; omega))) fun _ => ?_; (try simp ))
  refine CallX.mem 1000 hcm (by simp) (by simp [rowM, rowN, range_succ']) (by simp [rowM, rowN, range_succ']) ?_
  simp [rowM, rowN, range_succ']
  try simp 
  repeat (refine PreK.intro (by first | omega | (intros; first | omega | (refine ⟨by omega, ?_⟩; simp_all; done) | (simp_all; done) | (simp_all; omega))) fun _ => ?_; (try simp ))
  refine LoopK.by (ι := Nat) (fun i => ⟨[(25, iv i), (24, iv 2), (7, .sl 1008 1 0 2), (1, iv (p : Int))], (1008, some ⟨1, namW t 2 i, 1, true⟩) :: rowW t p 2 i⟩) (fun i => 2 - i) (fun i => i ≤ 2) 0 (Nat.zero_le _) (by simp [namW, rowW, range_succ', leEls_refl]) ?_
  intro i Q' hi hq he hr'
  have hi6 : i = 0 ∨ i = 1 ∨ i = 2 := by omega
  rcases hi6 with rfl | rfl | rfl
  · have hpi := hr 0 (by omega)
    have hwi := hw 0
    have hd := deleteI_L (el t 0) p hpi (by omega)
    simp [namW, rowW, range_succ']
    try simp 
    repeat (refine PreK.intro (by first | omega | (intros; first | omega | (refine ⟨by omega, ?_⟩; simp_all; done) | (simp_all; done) | (simp_all; omega))) fun _ => ?_; (try simp ))
    refine CondK.intro (fun h3 => ?_) (fun h3 => ?_)
    · try simp 
      repeat (refine PreK.intro (by first | omega | (intros; first | omega | (refine ⟨by omega, ?_⟩; simp_all; done) | (simp_all; done) | (simp_all; omega))) fun _ => ?_; (try simp ))
      refine CallX.lend [] (id := 1100) (ver := 1) (n := (el t 0).length) (b := ⟨1, (el t 0).map iv, 1, false⟩) [iv (p : Int), iv ((p : Int) + 1)] (.part ((el t 0).length - 1)) _ (by simp) (by simp) (by simp) (by simp) (by simp) (by simp) (by simp) (by simpa using hd) ?_
      try simp 
      repeat (refine PreK.intro (by first | omega | (intros; first | omega | (refine ⟨by omega, ?_⟩; simp_all; done) | (simp_all; done) | (simp_all; omega))) fun _ => ?_; (try simp ))
      exact hq 1 _ (by omega) (by omega) (by simp [namW, rowW, range_succ', leEls_refl])
    · simp at h3
  · have hpi := hr 1 (by omega)
    have hwi := hw 1
    have hd := deleteI_L (el t 1) p hpi (by omega)
    simp [namW, rowW, range_succ']
    try simp 
    repeat (refine PreK.intro (by first | omega | (intros; first | omega | (refine ⟨by omega, ?_⟩; simp_all; done) | (simp_all; done) | (simp_all; omega))) fun _ => ?_; (try simp ))
    refine CondK.intro (fun h3 => ?_) (fun h3 => ?_)
    · try simp 
      repeat (refine PreK.intro (by first | omega | (intros; first | omega | (refine ⟨by omega, ?_⟩; simp_all; done) | (simp_all; done) | (simp_all; omega))) fun _ => ?_; (try simp ))
      refine CallX.lend [] (id := 1101) (ver := 1) (n := (el t 1).length) (b := ⟨1, (el t 1).map iv, 1, false⟩) [iv (p : Int), iv ((p : Int) + 1)] (.part ((el t 1).length - 1)) _ (by simp) (by simp) (by simp) (by simp) (by simp) (by simp) (by simp) (by simpa using hd) ?_
      try simp 
      repeat (refine PreK.intro (by first | omega | (intros; first | omega | (refine ⟨by omega, ?_⟩; simp_all; done) | (simp_all; done) | (simp_all; omega))) fun _ => ?_; (try simp ))
      exact hq 2 _ (by omega) (by omega) (by simp [namW, rowW, range_succ', leEls_refl])
    · simp at h3
  · simp [namW, rowW, range_succ']
    try simp 
    repeat (refine PreK.intro (by first | omega | (intros; first | omega | (refine ⟨by omega, ?_⟩; simp_all; done) | (simp_all; done) | (simp_all; omega))) fun _ => ?_; (try simp ))
    refine CondK.intro (fun h3 => ?_) (fun h3 => ?_)
    · simp at h3
    · apply he
      try simp 
      repeat (refine PreK.intro (by first | omega | (intros; first | omega | (refine ⟨by omega, ?_⟩; simp_all; done) | (simp_all; done) | (simp_all; omega))) fun _ => ?_; (try simp ))
      refine ⟨[1100, 1101, 1008], ?_⟩
      have hl0 : ((el t 0).eraseIdx p).length = (el t 0).length - 1 := List.length_eraseIdx_of_lt (hr 0 (by omega))
      have ht0 : List.take ((el t 0).length - 1) (List.map iv ((el t 0).eraseIdx p) ++ [AV.raw (.int .i64 0)]) = List.map iv ((el t 0).eraseIdx p) := by
        rw [List.take_append_of_le_length (by rw [List.length_map]; omega), List.take_of_length_le (by rw [List.length_map]; omega)]
      have hk0 : (el t 0).length ≤ (el t 0).length - 1 + 1 + 1 := by omega
      have hl1 : ((el t 1).eraseIdx p).length = (el t 1).length - 1 := List.length_eraseIdx_of_lt (hr 1 (by omega))
      have ht1 : List.take ((el t 1).length - 1) (List.map iv ((el t 1).eraseIdx p) ++ [AV.raw (.int .i64 0)]) = List.map iv ((el t 1).eraseIdx p) := by
        rw [List.take_append_of_le_length (by rw [List.length_map]; omega), List.take_of_length_le (by rw [List.length_map]; omega)]
      have hk1 : (el t 1).length ≤ (el t 1).length - 1 + 1 + 1 := by omega
      simp [hl0, ht0, hk0, hl1, ht1, hk1, outW, range_succ']
      done
theorem without3 (t : List (List Int)) (p : Nat) (hn : t.length = 3) (hs : Sm t) (hv : placedErr t [(p : Int)] = 0) (hw : ∀ j, (el t j).length ≤ 6) (hr : ∀ j, j < 3 → p < (el t j).length) (h2 : ¬ (el t 0).length = 1) :
    CallP Try.prog 51 [rdsV t, iv (p : Int)] (.tup [.seq 1 (outW t p 3) false, iv 0]) := by
  refine CF51 (by simp) ?_
  have hp := placed_c t [(p : Int)] hs (by simp)
  rw [hv] at hp
  have hcm := copied_m t (by omega) (by omega) (fun j => by have := hw j; omega)
  rw [hn] at hcm
  have hpos : 0 < t.length := by omega
  have h2' : ¬ ((el t 0).length : Int) = 1 := by omega
  have hp6 : p < 6 := by have := hr 0 (by omega); have := hw 0; omega
  simp [A51]
  try simp 
  repeat' (first
    | (refine CallX.pure (hp) (by simp) (by simp) ?_; try simp )
    | (refine CallK.intro (hp) (by simp) (by simp) ?_; try simp )
    | (refine CallG.intro (fun _ => hp) (by simp) (by simp) ?_; try simp )
    | ((with_reducible refine PreK.intro ?_ ?_); (next => (first | omega | (intros; first | omega | (refine ⟨by omega, ?_⟩; repeat (first | assumption | constructor)) | assumption))); intro _; try simp )
    | fail)
  try simp 
  repeat (refine PreK.intro (by first | omega | (intros; first | omega | (refine ⟨by omega, ?_⟩; simp_all; done) | (simp_all; done) | (simp_all; omega))) fun _ => ?_; (try simp ))
  refine CondK.ff ?_
  try simp 
  try simp [hpos, h2, h2']
  repeat (refine PreK.intro (by first | omega | (intros; first | omega | (refine ⟨by omega, ?_⟩; simp_all; done) | (simp_all; done) | (simp_all; omega))) fun _ => ?_; (try simp [hpos, h2, h2']))
  refine CondK.ff ?_
  try simp 
  try simp 
  repeat (refine PreK.intro (by first | omega | (intros; first | omega | (refine ⟨by omega, ?_⟩; simp_all; done) | (simp_all; done) | (simp_all; omega))) fun _ => ?_; (try simp ))
  refine CallX.mem 1000 hcm (by simp) (by simp [rowM, rowN, range_succ']) (by simp [rowM, rowN, range_succ']) ?_
  simp [rowM, rowN, range_succ']
  try simp 
  repeat (refine PreK.intro (by first | omega | (intros; first | omega | (refine ⟨by omega, ?_⟩; simp_all; done) | (simp_all; done) | (simp_all; omega))) fun _ => ?_; (try simp ))
  refine LoopK.by (ι := Nat) (fun i => ⟨[(25, iv i), (24, iv 3), (7, .sl 1008 1 0 3), (1, iv (p : Int))], (1008, some ⟨1, namW t 3 i, 1, true⟩) :: rowW t p 3 i⟩) (fun i => 3 - i) (fun i => i ≤ 3) 0 (Nat.zero_le _) (by simp [namW, rowW, range_succ', leEls_refl]) ?_
  intro i Q' hi hq he hr'
  have hi6 : i = 0 ∨ i = 1 ∨ i = 2 ∨ i = 3 := by omega
  rcases hi6 with rfl | rfl | rfl | rfl
  · have hpi := hr 0 (by omega)
    have hwi := hw 0
    have hd := deleteI_L (el t 0) p hpi (by omega)
    simp [namW, rowW, range_succ']
    try simp 
    repeat (refine PreK.intro (by first | omega | (intros; first | omega | (refine ⟨by omega, ?_⟩; simp_all; done) | (simp_all; done) | (simp_all; omega))) fun _ => ?_; (try simp ))
    refine CondK.intro (fun h3 => ?_) (fun h3 => ?_)
    · try simp 
      repeat (refine PreK.intro (by first | omega | (intros; first | omega | (refine ⟨by omega, ?_⟩; simp_all; done) | (simp_all; done) | (simp_all; omega))) fun _ => ?_; (try simp ))
      refine CallX.lend [] (id := 1100) (ver := 1) (n := (el t 0).length) (b := ⟨1, (el t 0).map iv, 1, false⟩) [iv (p : Int), iv ((p : Int) + 1)] (.part ((el t 0).length - 1)) _ (by simp) (by simp) (by simp) (by simp) (by simp) (by simp) (by simp) (by simpa using hd) ?_
      try simp 
      repeat (refine PreK.intro (by first | omega | (intros; first | omega | (refine ⟨by omega, ?_⟩; simp_all; done) | (simp_all; done) | (simp_all; omega))) fun _ => ?_; (try simp ))
      exact hq 1 _ (by omega) (by omega) (by simp [namW, rowW, range_succ', leEls_refl])
    · simp at h3
  · have hpi := hr 1 (by omega)
    have hwi := hw 1
    have hd := deleteI_L (el t 1) p hpi (by omega)
    simp [namW, rowW, range_succ']
    try simp 
    repeat (refine PreK.intro (by first | omega | (intros; first | omega | (refine ⟨by omega, ?_⟩; simp_all; done) | (simp_all; done) | (simp_all; omega))) fun _ => ?_; (try simp ))
    refine CondK.intro (fun h3 => ?_) (fun h3 => ?_)
    · try simp 
      repeat (refine PreK.intro (by first | omega | (intros; first | omega | (refine ⟨by omega, ?_⟩; simp_all; done) | (simp_all; done) | (simp_all; omega))) fun _ => ?_; (try simp ))
      refine CallX.lend [] (id := 1101) (ver := 1) (n := (el t 1).length) (b := ⟨1, (el t 1).map iv, 1, false⟩) [iv (p : Int), iv ((p : Int) + 1)] (.part ((el t 1).length - 1)) _ (by simp) (by simp) (by simp) (by simp) (by simp) (by simp) (by simp) (by simpa using hd) ?_
      try simp 
      repeat (refine PreK.intro (by first | omega | (intros; first | omega | (refine ⟨by omega, ?_⟩; simp_all; done) | (simp_all; done) | (simp_all; omega))) fun _ => ?_; (try simp ))
      exact hq 2 _ (by omega) (by omega) (by simp [namW, rowW, range_succ', leEls_refl])
    · simp at h3
  · have hpi := hr 2 (by omega)
    have hwi := hw 2
    have hd := deleteI_L (el t 2) p hpi (by omega)
    simp [namW, rowW, range_succ']
    try simp 
    repeat (refine PreK.intro (by first | omega | (intros; first | omega | (refine ⟨by omega, ?_⟩; simp_all; done) | (simp_all; done) | (simp_all; omega))) fun _ => ?_; (try simp ))
    refine CondK.intro (fun h3 => ?_) (fun h3 => ?_)
    · try simp 
      repeat (refine PreK.intro (by first | omega | (intros; first | omega | (refine ⟨by omega, ?_⟩; simp_all; done) | (simp_all; done) | (simp_all; omega))) fun _ => ?_; (try simp ))
      refine CallX.lend [] (id := 1102) (ver := 1) (n := (el t 2).length) (b := ⟨1, (el t 2).map iv, 1, false⟩) [iv (p : Int), iv ((p : Int) + 1)] (.part ((el t 2).length - 1)) _ (by simp) (by simp) (by simp) (by simp) (by simp) (by simp) (by simp) (by simpa using hd) ?_
      try simp 
      repeat (refine PreK.intro (by first | omega | (intros; first | omega | (refine ⟨by omega, ?_⟩; simp_all; done) | (simp_all; done) | (simp_all; omega))) fun _ => ?_; (try simp ))
      exact hq 3 _ (by omega) (by omega) (by simp [namW, rowW, range_succ', leEls_refl])
    · simp at h3
  · simp [namW, rowW, range_succ']
    try simp 
    repeat (refine PreK.intro (by first | omega | (intros; first | omega | (refine ⟨by omega, ?_⟩; simp_all; done) | (simp_all; done) | (simp_all; omega))) fun _ => ?_; (try simp ))
    refine CondK.intro (fun h3 => ?_) (fun h3 => ?_)
    · simp at h3
    · apply he
      try simp 
      repeat (refine PreK.intro (by first | omega | (intros; first | omega | (refine ⟨by omega, ?_⟩; simp_all; done) | (simp_all; done) | (simp_all; omega))) fun _ => ?_; (try simp ))
      refine ⟨[1100, 1101, 1102, 1008], ?_⟩
      have hl0 : ((el t 0).eraseIdx p).length = (el t 0).length - 1 := List.length_eraseIdx_of_lt (hr 0 (by omega))
      have ht0 : List.take ((el t 0).length - 1) (List.map iv ((el t 0).eraseIdx p) ++ [AV.raw (.int .i64 0)]) = List.map iv ((el t 0).eraseIdx p) := by
        rw [List.take_append_of_le_length (by rw [List.length_map]; omega), List.take_of_length_le (by rw [List.length_map]; omega)]
      have hk0 : (el t 0).length ≤ (el t 0).length - 1 + 1 + 1 := by omega
      have hl1 : ((el t 1).eraseIdx p).length = (el t 1).length - 1 := List.length_eraseIdx_of_lt (hr 1 (by omega))
      have ht1 : List.take ((el t 1).length - 1) (List.map iv ((el t 1).eraseIdx p) ++ [AV.raw (.int .i64 0)]) = List.map iv ((el t 1).eraseIdx p) := by
        rw [List.take_append_of_le_length (by rw [List.length_map]; omega), List.take_of_length_le (by rw [List.length_map]; omega)]
      have hk1 : (el t 1).length ≤ (el t 1).length - 1 + 1 + 1 := by omega
      have hl2 : ((el t 2).eraseIdx p).length = (el t 2).length - 1 := List.length_eraseIdx_of_lt (hr 2 (by omega))
      have ht2 : List.take ((el t 2).length - 1) (List.map iv ((el t 2).eraseIdx p) ++ [AV.raw (.int .i64 0)]) = List.map iv ((el t 2).eraseIdx p) := by
        rw [List.take_append_of_le_length (by rw [List.length_map]; omega), List.take_of_length_le (by rw [List.length_map]; omega)]
      have hk2 : (el t 2).length ≤ (el t 2).length - 1 + 1 + 1 := by omega
      simp [hl0, ht0, hk0, hl1, ht1, hk1, hl2, ht2, hk2, outW, range_succ']
      done
theorem without4 (t : List (List Int)) (p : Nat) (hn : t.length = 4) (hs : Sm t) (hv : placedErr t [(p : Int)] = 0) (hw : ∀ j, (el t j).length ≤ 6) (hr : ∀ j, j < 4 → p < (el t j).length) (h2 : ¬ (el t 0).length = 1) :
    CallP Try.prog 51 [rdsV t, iv (p : Int)] (.tup [.seq 1 (outW t p 4) false, iv 0]) := by
  refine CF51 (by simp) ?_
  have hp := placed_c t [(p : Int)] hs (by simp)
  rw [hv] at hp
  have hcm := copied_m t (by omega) (by omega) (fun j => by have := hw j; omega)
  rw [hn] at hcm
  have hpos : 0 < t.length := by omega
  have h2' : ¬ ((el t 0).length : Int) = 1 := by omega
  have hp6 : p < 6 := by have := hr 0 (by omega); have := hw 0; omega
  simp [A51]
  try simp 
  repeat' (first
    | (refine CallX.pure (hp) (by simp) (by simp) ?_; try simp )
    | (refine CallK.intro (hp) (by simp) (by simp) ?_; try simp )
    | (refine CallG.intro (fun _ => hp) (by simp) (by simp) ?_; try simp )
    | ((with_reducible refine PreK.intro ?_ ?_); (next => (first | omega | (intros; first | omega | (refine ⟨by omega, ?_⟩; repeat (first | assumption | constructor)) | assumption))); intro _; try simp )
    | fail)
  try simp 
  repeat (refine PreK.intro (by first | omega | (intros; first | omega | (refine ⟨by omega, ?_⟩; simp_all; done) | (simp_all; done) | (simp_all; omega))) fun _ => ?_; (try simp ))
  refine CondK.ff ?_
  try simp 
  try simp [hpos, h2, h2']
  repeat (refine PreK.intro (by first | omega | (intros; first | omega | (refine ⟨by omega, ?_⟩; simp_all; done) | (simp_all; done) | (simp_all; omega))) fun _ => ?_; (try simp [hpos, h2, h2']))
  refine CondK.ff ?_
  try simp 
  try simp 
  repeat (refine PreK.intro (by first | omega | (intros; first | omega | (refine ⟨by omega, ?_⟩; simp_all; done) | (simp_all; done) | (simp_all; omega))) fun _ => ?_; (try simp ))
  refine CallX.mem 1000 hcm (by simp) (by simp [rowM, rowN, range_succ']) (by simp [rowM, rowN, range_succ']) ?_
  simp [rowM, rowN, range_succ']
  try simp 
  repeat (refine PreK.intro (by first | omega | (intros; first | omega | (refine ⟨by omega, ?_⟩; simp_all; done) | (simp_all; done) | (simp_all; omega))) fun _ => ?_; (try simp ))
  refine LoopK.by (ι := Nat) (fun i => ⟨[(25, iv i), (24, iv 4), (7, .sl 1008 1 0 4), (1, iv (p : Int))], (1008, some ⟨1, namW t 4 i, 1, true⟩) :: rowW t p 4 i⟩) (fun i => 4 - i) (fun i => i ≤ 4) 0 (Nat.zero_le _) (by simp [namW, rowW, range_succ', leEls_refl]) ?_
  intro i Q' hi hq he hr'
  have hi6 : i = 0 ∨ i = 1 ∨ i = 2 ∨ i = 3 ∨ i = 4 := by omega
  rcases hi6 with rfl | rfl | rfl | rfl | rfl
  · have hpi := hr 0 (by omega)
    have hwi := hw 0
    have hd := deleteI_L (el t 0) p hpi (by omega)
    simp [namW, rowW, range_succ']
    try simp 
    repeat (refine PreK.intro (by first | omega | (intros; first | omega | (refine ⟨by omega, ?_⟩; simp_all; done) | (simp_all; done) | (simp_all; omega))) fun _ => ?_; (try simp ))
    refine CondK.intro (fun h3 => ?_) (fun h3 => ?_)
    · try simp 
      repeat (refine PreK.intro (by first | omega | (intros; first | omega | (refine ⟨by omega, ?_⟩; simp_all; done) | (simp_all; done) | (simp_all; omega))) fun _ => ?_; (try simp ))
      refine CallX.lend [] (id := 1100) (ver := 1) (n := (el t 0).length) (b := ⟨1, (el t 0).map iv, 1, false⟩) [iv (p : Int), iv ((p : Int) + 1)] (.part ((el t 0).length - 1)) _ (by simp) (by simp) (by simp) (by simp) (by simp) (by simp) (by simp) (by simpa using hd) ?_
      try simp 
      repeat (refine PreK.intro (by first | omega | (intros; first | omega | (refine ⟨by omega, ?_⟩; simp_all; done) | (simp_all; done) | (simp_all; omega))) fun _ => ?_; (try simp ))
      exact hq 1 _ (by omega) (by omega) (by simp [namW, rowW, range_succ', leEls_refl])
    · simp at h3
  · have hpi := hr 1 (by omega)
    have hwi := hw 1
    have hd := deleteI_L (el t 1) p hpi (by omega)
    simp [namW, rowW, range_succ']
    try simp 
    repeat (refine PreK.intro (by first | omega | (intros; first | omega | (refine ⟨by omega, ?_⟩; simp_all; done) | (simp_all; done) | (simp_all; omega))) fun _ => ?_; (try simp ))
    refine CondK.intro (fun h3 => ?_) (fun h3 => ?_)
    · try simp 
      repeat (refine PreK.intro (by first | omega | (intros; first | omega | (refine ⟨by omega, ?_⟩; simp_all; done) | (simp_all; done) | (simp_all; omega))) fun _ => ?_; (try simp ))
      refine CallX.lend [] (id := 1101) (ver := 1) (n := (el t 1).length) (b := ⟨1, (el t 1).map iv, 1, false⟩) [iv (p : Int), iv ((p : Int) + 1)] (.part ((el t 1).length - 1)) _ (by simp) (by simp) (by simp) (by simp) (by simp) (by simp) (by simp) (by simpa using hd) ?_
      try simp 
      repeat (refine PreK.intro (by first | omega | (intros; first | omega | (refine ⟨by omega, ?_⟩; simp_all; done) | (simp_all; done) | (simp_all; omega))) fun _ => ?_; (try simp ))
      exact hq 2 _ (by omega) (by omega) (by simp [namW, rowW, range_succ', leEls_refl])
    · simp at h3
  · have hpi := hr 2 (by omega)
    have hwi := hw 2
    have hd := deleteI_L (el t 2) p hpi (by omega)
    simp [namW, rowW, range_succ']
    try simp 
    repeat (refine PreK.intro (by first | omega | (intros; first | omega | (refine ⟨by omega, ?_⟩; simp_all; done) | (simp_all; done) | (simp_all; omega))) fun _ => ?_; (try simp ))
    refine CondK.intro (fun h3 => ?_) (fun h3 => ?_)
    · try simp 
      repeat (refine PreK.intro (by first | omega | (intros; first | omega | (refine ⟨by omega, ?_⟩; simp_all; done) | (simp_all; done) | (simp_all; omega))) fun _ => ?_; (try simp ))
      refine CallX.lend [] (id := 1102) (ver := 1) (n := (el t 2).length) (b := ⟨1, (el t 2).map iv, 1, false⟩) [iv (p : Int), iv ((p : Int) + 1)] (.part ((el t 2).length - 1)) _ (by simp) (by simp) (by simp) (by simp) (by simp) (by simp) (by simp) (by simpa using hd) ?_
      try simp 
      repeat (refine PreK.intro (by first | omega | (intros; first | omega | (refine ⟨by omega, ?_⟩; simp_all; done) | (simp_all; done) | (simp_all; omega))) fun _ => ?_; (try simp ))
      exact hq 3 _ (by omega) (by omega) (by simp [namW, rowW, range_succ', leEls_refl])
    · simp at h3
  · have hpi := hr 3 (by omega)
    have hwi := hw 3
    have hd := deleteI_L (el t 3) p hpi (by omega)
    simp [namW, rowW, range_succ']
    try simp 
    repeat (refine PreK.intro (by first | omega | (intros; first | omega | (refine ⟨by omega, ?_⟩; simp_all; done) | (simp_all; done) | (simp_all; omega))) fun _ => ?_; (try simp ))
    refine CondK.intro (fun h3 => ?_) (fun h3 => ?_)
    · try simp 
      repeat (refine PreK.intro (by first | omega | (intros; first | omega | (refine ⟨by omega, ?_⟩; simp_all; done) | (simp_all; done) | (simp_all; omega))) fun _ => ?_; (try simp ))
      refine CallX.lend [] (id := 1103) (ver := 1) (n := (el t 3).length) (b := ⟨1, (el t 3).map iv, 1, false⟩) [iv (p : Int), iv ((p : Int) + 1)] (.part ((el t 3).length - 1)) _ (by simp) (by simp) (by simp) (by simp) (by simp) (by simp) (by simp) (by simpa using hd) ?_
      try simp 
      repeat (refine PreK.intro (by first | omega | (intros; first | omega | (refine ⟨by omega, ?_⟩; simp_all; done) | (simp_all; done) | (simp_all; omega))) fun _ => ?_; (try simp ))
      exact hq 4 _ (by omega) (by omega) (by simp [namW, rowW, range_succ', leEls_refl])
    · simp at h3
  · simp [namW, rowW, range_succ']
    try simp 
    repeat (refine PreK.intro (by first | omega | (intros; first | omega | (refine ⟨by omega, ?_⟩; simp_all; done) | (simp_all; done) | (simp_all; omega))) fun _ => ?_; (try simp ))
    refine CondK.intro (fun h3 => ?_) (fun h3 => ?_)
    · simp at h3
    · apply he
      try simp 
      repeat (refine PreK.intro (by first | omega | (intros; first | omega | (refine ⟨by omega, ?_⟩; simp_all; done) | (simp_all; done) | (simp_all; omega))) fun _ => ?_; (try simp ))
      refine ⟨[1100, 1101, 1102, 1103, 1008], ?_⟩
      have hl0 : ((el t 0).eraseIdx p).length = (el t 0).length - 1 := List.length_eraseIdx_of_lt (hr 0 (by omega))
      have ht0 : List.take ((el t 0).length - 1) (List.map iv ((el t 0).eraseIdx p) ++ [AV.raw (.int .i64 0)]) = List.map iv ((el t 0).eraseIdx p) := by
        rw [List.take_append_of_le_length (by rw [List.length_map]; omega), List.take_of_length_le (by rw [List.length_map]; omega)]
      have hk0 : (el t 0).length ≤ (el t 0).length - 1 + 1 + 1 := by omega
      have hl1 : ((el t 1).eraseIdx p).length = (el t 1).length - 1 := List.length_eraseIdx_of_lt (hr 1 (by omega))
      have ht1 : List.take ((el t 1).length - 1) (List.map iv ((el t 1).eraseIdx p) ++ [AV.raw (.int .i64 0)]) = List.map iv ((el t 1).eraseIdx p) := by
        rw [List.take_append_of_le_length (by rw [List.length_map]; omega), List.take_of_length_le (by rw [List.length_map]; omega)]
      have hk1 : (el t 1).length ≤ (el t 1).length - 1 + 1 + 1 := by omega
      have hl2 : ((el t 2).eraseIdx p).length = (el t 2).length - 1 := List.length_eraseIdx_of_lt (hr 2 (by omega))
      have ht2 : List.take ((el t 2).length - 1) (List.map iv ((el t 2).eraseIdx p) ++ [AV.raw (.int .i64 0)]) = List.map iv ((el t 2).eraseIdx p) := by
        rw [List.take_append_of_le_length (by rw [List.length_map]; omega), List.take_of_length_le (by rw [List.length_map]; omega)]
      have hk2 : (el t 2).length ≤ (el t 2).length - 1 + 1 + 1 := by omega
      have hl3 : ((el t 3).eraseIdx p).length = (el t 3).length - 1 := List.length_eraseIdx_of_lt (hr 3 (by omega))
      have ht3 : List.take ((el t 3).length - 1) (List.map iv ((el t 3).eraseIdx p) ++ [AV.raw (.int .i64 0)]) = List.map iv ((el t 3).eraseIdx p) := by
        rw [List.take_append_of_le_length (by rw [List.length_map]; omega), List.take_of_length_le (by rw [List.length_map]; omega)]
      have hk3 : (el t 3).length ≤ (el t 3).length - 1 + 1 + 1 := by omega
      simp [hl0, ht0, hk0, hl1, ht1, hk1, hl2, ht2, hk2, hl3, ht3, hk3, outW, range_succ']
      done
theorem without5 (t : List (List Int)) (p : Nat) (hn : t.length = 5) (hs : Sm t) (hv : placedErr t [(p : Int)] = 0) (hw : ∀ j, (el t j).length ≤ 6) (hr : ∀ j, j < 5 → p < (el t j).length) (h2 : ¬ (el t 0).length = 1) :
    CallP Try.prog 51 [rdsV t, iv (p : Int)] (.tup [.seq 1 (outW t p 5) false, iv 0]) := by
  refine CF51 (by simp) ?_
  have hp := placed_c t [(p : Int)] hs (by simp)
  rw [hv] at hp
  have hcm := copied_m t (by omega) (by omega) (fun j => by have := hw j; omega)
  rw [hn] at hcm
  have hpos : 0 < t.length := by omega
  have h2' : ¬ ((el t 0).length : Int) = 1 := by omega
  have hp6 : p < 6 := by have := hr 0 (by omega); have := hw 0; omega
  simp [A51]
  try simp 
  repeat' (first
    | (refine CallX.pure (hp) (by simp) (by simp) ?_; try simp )
    | (refine CallK.intro (hp) (by simp) (by simp) ?_; try simp )
    | (refine CallG.intro (fun _ => hp) (by simp) (by simp) ?_; try simp )
    | ((with_reducible refine PreK.intro ?_ ?_); (next => (first | omega | (intros; first | omega | (refine ⟨by omega, ?_⟩; repeat (first | assumption | constructor)) | assumption))); intro _; try simp )
    | fail)
  try simp 
  repeat (refine PreK.intro (by first | omega | (intros; first | omega | (refine ⟨by omega, ?_⟩; simp_all; done) | (simp_all; done) | (simp_all; omega))) fun _ => ?_; (try simp ))
  refine CondK.ff ?_
  try simp 
  try simp [hpos, h2, h2']
  repeat (refine PreK.intro (by first | omega | (intros; first | omega | (refine ⟨by omega, ?_⟩; simp_all; done) | (simp_all; done) | (simp_all; omega))) fun _ => ?_; (try simp [hpos, h2, h2']))
  refine CondK.ff ?_
  try simp 
  try simp 
  repeat (refine PreK.intro (by first | omega | (intros; first | omega | (refine ⟨by omega, ?_⟩; simp_all; done) | (simp_all; done) | (simp_all; omega))) fun _ => ?_; (try simp ))
  refine CallX.mem 1000 hcm (by simp) (by simp [rowM, rowN, range_succ']) (by simp [rowM, rowN, range_succ']) ?_
  simp [rowM, rowN, range_succ']
  try simp 
  repeat (refine PreK.intro (by first | omega | (intros; first | omega | (refine ⟨by omega, ?_⟩; simp_all; done) | (simp_all; done) | (simp_all; omega))) fun _ => ?_; (try simp ))
  refine LoopK.by (ι := Nat) (fun i => ⟨[(25, iv i), (24, iv 5), (7, .sl 1008 1 0 5), (1, iv (p : Int))], (1008, some ⟨1, namW t 5 i, 1, true⟩) :: rowW t p 5 i⟩) (fun i => 5 - i) (fun i => i ≤ 5) 0 (Nat.zero_le _) (by simp [namW, rowW, range_succ', leEls_refl]) ?_
  intro i Q' hi hq he hr'
  have hi6 : i = 0 ∨ i = 1 ∨ i = 2 ∨ i = 3 ∨ i = 4 ∨ i = 5 := by omega
  rcases hi6 with rfl | rfl | rfl | rfl | rfl | rfl
  · have hpi := hr 0 (by omega)
    have hwi := hw 0
    have hd := deleteI_L (el t 0) p hpi (by omega)
    simp [namW, rowW, range_succ']
    try simp 
    repeat (refine PreK.intro (by first | omega | (intros; first | omega | (refine ⟨by omega, ?_⟩; simp_all; done) | (simp_all; done) | (simp_all; omega))) fun _ => ?_; (try simp ))
    refine CondK.intro (fun h3 => ?_) (fun h3 => ?_)
    · try simp 
      repeat (refine PreK.intro (by first | omega | (intros; first | omega | (refine ⟨by omega, ?_⟩; simp_all; done) | (simp_all; done) | (simp_all; omega))) fun _ => ?_; (try simp ))
      refine CallX.lend [] (id := 1100) (ver := 1) (n := (el t 0).length) (b := ⟨1, (el t 0).map iv, 1, false⟩) [iv (p : Int), iv ((p : Int) + 1)] (.part ((el t 0).length - 1)) _ (by simp) (by simp) (by simp) (by simp) (by simp) (by simp) (by simp) (by simpa using hd) ?_
      try simp 
      repeat (refine PreK.intro (by first | omega | (intros; first | omega | (refine ⟨by omega, ?_⟩; simp_all; done) | (simp_all; done) | (simp_all; omega))) fun _ => ?_; (try simp ))
      exact hq 1 _ (by omega) (by omega) (by simp [namW, rowW, range_succ', leEls_refl])
    · simp at h3
  · have hpi := hr 1 (by omega)
    have hwi := hw 1
    have hd := deleteI_L (el t 1) p hpi (by omega)
    simp [namW, rowW, range_succ']
    try simp 
    repeat (refine PreK.intro (by first | omega | (intros; first | omega | (refine ⟨by omega, ?_⟩; simp_all; done) | (simp_all; done) | (simp_all; omega))) fun _ => ?_; (try simp ))
    refine CondK.intro (fun h3 => ?_) (fun h3 => ?_)
    · try simp 
      repeat (refine PreK.intro (by first | omega | (intros; first | omega | (refine ⟨by omega, ?_⟩; simp_all; done) | (simp_all; done) | (simp_all; omega))) fun _ => ?_; (try simp ))
      refine CallX.lend [] (id := 1101) (ver := 1) (n := (el t 1).length) (b := ⟨1, (el t 1).map iv, 1, false⟩) [iv (p : Int), iv ((p : Int) + 1)] (.part ((el t 1).length - 1)) _ (by simp) (by simp) (by simp) (by simp) (by simp) (by simp) (by simp) (by simpa using hd) ?_
      try simp 
      repeat (refine PreK.intro (by first | omega | (intros; first | omega | (refine ⟨by omega, ?_⟩; simp_all; done) | (simp_all; done) | (simp_all; omega))) fun _ => ?_; (try simp ))
      exact hq 2 _ (by omega) (by omega) (by simp [namW, rowW, range_succ', leEls_refl])
    · simp at h3
  · have hpi := hr 2 (by omega)
    have hwi := hw 2
    have hd := deleteI_L (el t 2) p hpi (by omega)
    simp [namW, rowW, range_succ']
    try simp 
    repeat (refine PreK.intro (by first | omega | (intros; first | omega | (refine ⟨by omega, ?_⟩; simp_all; done) | (simp_all; done) | (simp_all; omega))) fun _ => ?_; (try simp ))
    refine CondK.intro (fun h3 => ?_) (fun h3 => ?_)
    · try simp 
      repeat (refine PreK.intro (by first | omega | (intros; first | omega | (refine ⟨by omega, ?_⟩; simp_all; done) | (simp_all; done) | (simp_all; omega))) fun _ => ?_; (try simp ))
      refine CallX.lend [] (id := 1102) (ver := 1) (n := (el t 2).length) (b := ⟨1, (el t 2).map iv, 1, false⟩) [iv (p : Int), iv ((p : Int) + 1)] (.part ((el t 2).length - 1)) _ (by simp) (by simp) (by simp) (by simp) (by simp) (by simp) (by simp) (by simpa using hd) ?_
      try simp 
      repeat (refine PreK.intro (by first | omega | (intros; first | omega | (refine ⟨by omega, ?_⟩; simp_all; done) | (simp_all; done) | (simp_all; omega))) fun _ => ?_; (try simp ))
      exact hq 3 _ (by omega) (by omega) (by simp [namW, rowW, range_succ', leEls_refl])
    · simp at h3
  · have hpi := hr 3 (by omega)
    have hwi := hw 3
    have hd := deleteI_L (el t 3) p hpi (by omega)
    simp [namW, rowW, range_succ']
    try simp 
    repeat (refine PreK.intro (by first | omega | (intros; first | omega | (refine ⟨by omega, ?_⟩; simp_all; done) | (simp_all; done) | (simp_all; omega))) fun _ => ?_; (try simp ))
    refine CondK.intro (fun h3 => ?_) (fun h3 => ?_)
    · try simp 
      repeat (refine PreK.intro (by first | omega | (intros; first | omega | (refine ⟨by omega, ?_⟩; simp_all; done) | (simp_all; done) | (simp_all; omega))) fun _ => ?_; (try simp ))
      refine CallX.lend [] (id := 1103) (ver := 1) (n := (el t 3).length) (b := ⟨1, (el t 3).map iv, 1, false⟩) [iv (p : Int), iv ((p : Int) + 1)] (.part ((el t 3).length - 1)) _ (by simp) (by simp) (by simp) (by simp) (by simp) (by simp) (by simp) (by simpa using hd) ?_
      try simp 
      repeat (refine PreK.intro (by first | omega | (intros; first | omega | (refine ⟨by omega, ?_⟩; simp_all; done) | (simp_all; done) | (simp_all; omega))) fun _ => ?_; (try simp ))
      exact hq 4 _ (by omega) (by omega) (by simp [namW, rowW, range_succ', leEls_refl])
    · simp at h3
  · have hpi := hr 4 (by omega)
    have hwi := hw 4
    have hd := deleteI_L (el t 4) p hpi (by omega)
    simp [namW, rowW, range_succ']
    try simp 
    repeat (refine PreK.intro (by first | omega | (intros; first | omega | (refine ⟨by omega, ?_⟩; simp_all; done) | (simp_all; done) | (simp_all; omega))) fun _ => ?_; (try simp ))
    refine CondK.intro (fun h3 => ?_) (fun h3 => ?_)
    · try simp 
      repeat (refine PreK.intro (by first | omega | (intros; first | omega | (refine ⟨by omega, ?_⟩; simp_all; done) | (simp_all; done) | (simp_all; omega))) fun _ => ?_; (try simp ))
      refine CallX.lend [] (id := 1104) (ver := 1) (n := (el t 4).length) (b := ⟨1, (el t 4).map iv, 1, false⟩) [iv (p : Int), iv ((p : Int) + 1)] (.part ((el t 4).length - 1)) _ (by simp) (by simp) (by simp) (by simp) (by simp) (by simp) (by simp) (by simpa using hd) ?_
      try simp 
      repeat (refine PreK.intro (by first | omega | (intros; first | omega | (refine ⟨by omega, ?_⟩; simp_all; done) | (simp_all; done) | (simp_all; omega))) fun _ => ?_; (try simp ))
      exact hq 5 _ (by omega) (by omega) (by simp [namW, rowW, range_succ', leEls_refl])
    · simp at h3
  · simp [namW, rowW, range_succ']
    try simp 
    repeat (refine PreK.intro (by first | omega | (intros; first | omega | (refine ⟨by omega, ?_⟩; simp_all; done) | (simp_all; done) | (simp_all; omega))) fun _ => ?_; (try simp ))
    refine CondK.intro (fun h3 => ?_) (fun h3 => ?_)
    · simp at h3
    · apply he
      try simp 
      repeat (refine PreK.intro (by first | omega | (intros; first | omega | (refine ⟨by omega, ?_⟩; simp_all; done) | (simp_all; done) | (simp_all; omega))) fun _ => ?_; (try simp ))
      refine ⟨[1100, 1101, 1102, 1103, 1104, 1008], ?_⟩
      have hl0 : ((el t 0).eraseIdx p).length = (el t 0).length - 1 := List.length_eraseIdx_of_lt (hr 0 (by omega))
      have ht0 : List.take ((el t 0).length - 1) (List.map iv ((el t 0).eraseIdx p) ++ [AV.raw (.int .i64 0)]) = List.map iv ((el t 0).eraseIdx p) := by
        rw [List.take_append_of_le_length (by rw [List.length_map]; omega), List.take_of_length_le (by rw [List.length_map]; omega)]
      have hk0 : (el t 0).length ≤ (el t 0).length - 1 + 1 + 1 := by omega
      have hl1 : ((el t 1).eraseIdx p).length = (el t 1).length - 1 := List.length_eraseIdx_of_lt (hr 1 (by omega))
      have ht1 : List.take ((el t 1).length - 1) (List.map iv ((el t 1).eraseIdx p) ++ [AV.raw (.int .i64 0)]) = List.map iv ((el t 1).eraseIdx p) := by
        rw [List.take_append_of_le_length (by rw [List.length_map]; omega), List.take_of_length_le (by rw [List.length_map]; omega)]
      have hk1 : (el t 1).length ≤ (el t 1).length - 1 + 1 + 1 := by omega
      have hl2 : ((el t 2).eraseIdx p).length = (el t 2).length - 1 := List.length_eraseIdx_of_lt (hr 2 (by omega))
      have ht2 : List.take ((el t 2).length - 1) (List.map iv ((el t 2).eraseIdx p) ++ [AV.raw (.int .i64 0)]) = List.map iv ((el t 2).eraseIdx p) := by
        rw [List.take_append_of_le_length (by rw [List.length_map]; omega), List.take_of_length_le (by rw [List.length_map]; omega)]
      have hk2 : (el t 2).length ≤ (el t 2).length - 1 + 1 + 1 := by omega
      have hl3 : ((el t 3).eraseIdx p).length = (el t 3).length - 1 := List.length_eraseIdx_of_lt (hr 3 (by omega))
      have ht3 : List.take ((el t 3).length - 1) (List.map iv ((el t 3).eraseIdx p) ++ [AV.raw (.int .i64 0)]) = List.map iv ((el t 3).eraseIdx p) := by
        rw [List.take_append_of_le_length (by rw [List.length_map]; omega), List.take_of_length_le (by rw [List.length_map]; omega)]
      have hk3 : (el t 3).length ≤ (el t 3).length - 1 + 1 + 1 := by omega
      have hl4 : ((el t 4).eraseIdx p).length = (el t 4).length - 1 := List.length_eraseIdx_of_lt (hr 4 (by omega))
      have ht4 : List.take ((el t 4).length - 1) (List.map iv ((el t 4).eraseIdx p) ++ [AV.raw (.int .i64 0)]) = List.map iv ((el t 4).eraseIdx p) := by
        rw [List.take_append_of_le_length (by rw [List.length_map]; omega), List.take_of_length_le (by rw [List.length_map]; omega)]
      have hk4 : (el t 4).length ≤ (el t 4).length - 1 + 1 + 1 := by omega
      simp [hl0, ht0, hk0, hl1, ht1, hk1, hl2, ht2, hk2, hl3, ht3, hk3, hl4, ht4, hk4, outW, range_succ']
      done
theorem without6 (t : List (List Int)) (p : Nat) (hn : t.length = 6) (hs : Sm t) (hv : placedErr t [(p : Int)] = 0) (hw : ∀ j, (el t j).length ≤ 6) (hr : ∀ j, j < 6 → p < (el t j).length) (h2 : ¬ (el t 0).length = 1) :
    CallP Try.prog 51 [rdsV t, iv (p : Int)] (.tup [.seq 1 (outW t p 6) false, iv 0]) := by
  refine CF51 (by simp) ?_
  have hp := placed_c t [(p : Int)] hs (by simp)
  rw [hv] at hp
  have hcm := copied_m t (by omega) (by omega) (fun j => by have := hw j; omega)
  rw [hn] at hcm
  have hpos : 0 < t.length := by omega
  have h2' : ¬ ((el t 0).length : Int) = 1 := by omega
  have hp6 : p < 6 := by have := hr 0 (by omega); have := hw 0; omega
  simp [A51]
  try simp 
  repeat' (first
    | (refine CallX.pure (hp) (by simp) (by simp) ?_; try simp )
    | (refine CallK.intro (hp) (by simp) (by simp) ?_; try simp )
    | (refine CallG.intro (fun _ => hp) (by simp) (by simp) ?_; try simp )
    | ((with_reducible refine PreK.intro ?_ ?_); (next => (first | omega | (intros; first | omega | (refine ⟨by omega, ?_⟩; repeat (first | assumption | constructor)) | assumption))); intro _; try simp )
    | fail)
  try simp 
  repeat (refine PreK.intro (by first | omega | (intros; first | omega | (refine ⟨by omega, ?_⟩; simp_all; done) | (simp_all; done) | (simp_all; omega))) fun _ => ?_; (try simp ))
  refine CondK.ff ?_
  try simp 
  try simp [hpos, h2, h2']
  repeat (refine PreK.intro (by first | omega | (intros; first | omega | (refine ⟨by omega, ?_⟩; simp_all; done) | (simp_all; done) | (simp_all; omega))) fun _ => ?_; (try simp [hpos, h2, h2']))
  refine CondK.ff ?_
  try simp 
  try simp 
  repeat (refine PreK.intro (by first | omega | (intros; first | omega | (refine ⟨by omega, ?_⟩; simp_all; done) | (simp_all; done) | (simp_all; omega))) fun _ => ?_; (try simp ))
  refine CallX.mem 1000 hcm (by simp) (by simp [rowM, rowN, range_succ']) (by simp [rowM, rowN, range_succ']) ?_
  simp [rowM, rowN, range_succ']
  try simp 
  repeat (refine PreK.intro (by first | omega | (intros; first | omega | (refine ⟨by omega, ?_⟩; simp_all; done) | (simp_all; done) | (simp_all; omega))) fun _ => ?_; (try simp ))
  refine LoopK.by (ι := Nat) (fun i => ⟨[(25, iv i), (24, iv 6), (7, .sl 1008 1 0 6), (1, iv (p : Int))], (1008, some ⟨1, namW t 6 i, 1, true⟩) :: rowW t p 6 i⟩) (fun i => 6 - i) (fun i => i ≤ 6) 0 (Nat.zero_le _) (by simp [namW, rowW, range_succ', leEls_refl]) ?_
  intro i Q' hi hq he hr'
  have hi6 : i = 0 ∨ i = 1 ∨ i = 2 ∨ i = 3 ∨ i = 4 ∨ i = 5 ∨ i = 6 := by omega
  rcases hi6 with rfl | rfl | rfl | rfl | rfl | rfl | rfl
  · have hpi := hr 0 (by omega)
    have hwi := hw 0
    have hd := deleteI_L (el t 0) p hpi (by omega)
    simp [namW, rowW, range_succ']
    try simp 
    repeat (refine PreK.intro (by first | omega | (intros; first | omega | (refine ⟨by omega, ?_⟩; simp_all; done) | (simp_all; done) | (simp_all; omega))) fun _ => ?_; (try simp ))
    refine CondK.intro (fun h3 => ?_) (fun h3 => ?_)
    · try simp 
      repeat (refine PreK.intro (by first | omega | (intros; first | omega | (refine ⟨by omega, ?_⟩; simp_all; done) | (simp_all; done) | (simp_all; omega))) fun _ => ?_; (try simp ))
      refine CallX.lend [] (id := 1100) (ver := 1) (n := (el t 0).length) (b := ⟨1, (el t 0).map iv, 1, false⟩) [iv (p : Int), iv ((p : Int) + 1)] (.part ((el t 0).length - 1)) _ (by simp) (by simp) (by simp) (by simp) (by simp) (by simp) (by simp) (by simpa using hd) ?_
      try simp 
      repeat (refine PreK.intro (by first | omega | (intros; first | omega | (refine ⟨by omega, ?_⟩; simp_all; done) | (simp_all; done) | (simp_all; omega))) fun _ => ?_; (try simp ))
      exact hq 1 _ (by omega) (by omega) (by simp [namW, rowW, range_succ', leEls_refl])
    · simp at h3
  · have hpi := hr 1 (by omega)
    have hwi := hw 1
    have hd := deleteI_L (el t 1) p hpi (by omega)
    simp [namW, rowW, range_succ']
    try simp 
    repeat (refine PreK.intro (by first | omega | (intros; first | omega | (refine ⟨by omega, ?_⟩; simp_all; done) | (simp_all; done) | (simp_all; omega))) fun _ => ?_; (try simp ))
    refine CondK.intro (fun h3 => ?_) (fun h3 => ?_)
    · try simp 
      repeat (refine PreK.intro (by first | omega | (intros; first | omega | (refine ⟨by omega, ?_⟩; simp_all; done) | (simp_all; done) | (simp_all; omega))) fun _ => ?_; (try simp ))
      refine CallX.lend [] (id := 1101) (ver := 1) (n := (el t 1).length) (b := ⟨1, (el t 1).map iv, 1, false⟩) [iv (p : Int), iv ((p : Int) + 1)] (.part ((el t 1).length - 1)) _ (by simp) (by simp) (by simp) (by simp) (by simp) (by simp) (by simp) (by simpa using hd) ?_
      try simp 
      repeat (refine PreK.intro (by first | omega | (intros; first | omega | (refine ⟨by omega, ?_⟩; simp_all; done) | (simp_all; done) | (simp_all; omega))) fun _ => ?_; (try simp ))
      exact hq 2 _ (by omega) (by omega) (by simp [namW, rowW, range_succ', leEls_refl])
    · simp at h3
  · have hpi := hr 2 (by omega)
    have hwi := hw 2
    have hd := deleteI_L (el t 2) p hpi (by omega)
    simp [namW, rowW, range_succ']
    try simp 
    repeat (refine PreK.intro (by first | omega | (intros; first | omega | (refine ⟨by omega, ?_⟩; simp_all; done) | (simp_all; done) | (simp_all; omega))) fun _ => ?_; (try simp ))
    refine CondK.intro (fun h3 => ?_) (fun h3 => ?_)
    · try simp 
      repeat (refine PreK.intro (by first | omega | (intros; first | omega | (refine ⟨by omega, ?_⟩; simp_all; done) | (simp_all; done) | (simp_all; omega))) fun _ => ?_; (try simp ))
      refine CallX.lend [] (id := 1102) (ver := 1) (n := (el t 2).length) (b := ⟨1, (el t 2).map iv, 1, false⟩) [iv (p : Int), iv ((p : Int) + 1)] (.part ((el t 2).length - 1)) _ (by simp) (by simp) (by simp) (by simp) (by simp) (by simp) (by simp) (by simpa using hd) ?_
      try simp 
      repeat (refine PreK.intro (by first | omega | (intros; first | omega | (refine ⟨by omega, ?_⟩; simp_all; done) | (simp_all; done) | (simp_all; omega))) fun _ => ?_; (try simp ))
      exact hq 3 _ (by omega) (by omega) (by simp [namW, rowW, range_succ', leEls_refl])
    · simp at h3
  · have hpi := hr 3 (by omega)
    have hwi := hw 3
    have hd := deleteI_L (el t 3) p hpi (by omega)
    simp [namW, rowW, range_succ']
    try simp 
    repeat (refine PreK.intro (by first | omega | (intros; first | omega | (refine ⟨by omega, ?_⟩; simp_all; done) | (simp_all; done) | (simp_all; omega))) fun _ => ?_; (try simp ))
    refine CondK.intro (fun h3 => ?_) (fun h3 => ?_)
    · try simp 
      repeat (refine PreK.intro (by first | omega | (intros; first | omega | (refine ⟨by omega, ?_⟩; simp_all; done) | (simp_all; done) | (simp_all; omega))) fun _ => ?_; (try simp ))
      refine CallX.lend [] (id := 1103) (ver := 1) (n := (el t 3).length) (b := ⟨1, (el t 3).map iv, 1, false⟩) [iv (p : Int), iv ((p : Int) + 1)] (.part ((el t 3).length - 1)) _ (by simp) (by simp) (by simp) (by simp) (by simp) (by simp) (by simp) (by simpa using hd) ?_
      try simp 
      repeat (refine PreK.intro (by first | omega | (intros; first | omega | (refine ⟨by omega, ?_⟩; simp_all; done) | (simp_all; done) | (simp_all; omega))) fun _ => ?_; (try simp ))
      exact hq 4 _ (by omega) (by omega) (by simp [namW, rowW, range_succ', leEls_refl])
    · simp at h3
  · have hpi := hr 4 (by omega)
    have hwi := hw 4
    have hd := deleteI_L (el t 4) p hpi (by omega)
    simp [namW, rowW, range_succ']
    try simp 
    repeat (refine PreK.intro (by first | omega | (intros; first | omega | (refine ⟨by omega, ?_⟩; simp_all; done) | (simp_all; done) | (simp_all; omega))) fun _ => ?_; (try simp ))
    refine CondK.intro (fun h3 => ?_) (fun h3 => ?_)
    · try simp 
      repeat (refine PreK.intro (by first | omega | (intros; first | omega | (refine ⟨by omega, ?_⟩; simp_all; done) | (simp_all; done) | (simp_all; omega))) fun _ => ?_; (try simp ))
      refine CallX.lend [] (id := 1104) (ver := 1) (n := (el t 4).length) (b := ⟨1, (el t 4).map iv, 1, false⟩) [iv (p : Int), iv ((p : Int) + 1)] (.part ((el t 4).length - 1)) _ (by simp) (by simp) (by simp) (by simp) (by simp) (by simp) (by simp) (by simpa using hd) ?_
      try simp 
      repeat (refine PreK.intro (by first | omega | (intros; first | omega | (refine ⟨by omega, ?_⟩; simp_all; done) | (simp_all; done) | (simp_all; omega))) fun _ => ?_; (try simp ))
      exact hq 5 _ (by omega) (by omega) (by simp [namW, rowW, range_succ', leEls_refl])
    · simp at h3
  · have hpi := hr 5 (by omega)
    have hwi := hw 5
    have hd := deleteI_L (el t 5) p hpi (by omega)
    simp [namW, rowW, range_succ']
    try simp 
    repeat (refine PreK.intro (by first | omega | (intros; first | omega | (refine ⟨by omega, ?_⟩; simp_all; done) | (simp_all; done) | (simp_all; omega))) fun _ => ?_; (try simp ))
    refine CondK.intro (fun h3 => ?_) (fun h3 => ?_)
    · try simp 
      repeat (refine PreK.intro (by first | omega | (intros; first | omega | (refine ⟨by omega, ?_⟩; simp_all; done) | (simp_all; done) | (simp_all; omega))) fun _ => ?_; (try simp ))
      refine CallX.lend [] (id := 1105) (ver := 1) (n := (el t 5).length) (b := ⟨1, (el t 5).map iv, 1, false⟩) [iv (p : Int), iv ((p : Int) + 1)] (.part ((el t 5).length - 1)) _ (by simp) (by simp) (by simp) (by simp) (by simp) (by simp) (by simp) (by simpa using hd) ?_
      try simp 
      repeat (refine PreK.intro (by first | omega | (intros; first | omega | (refine ⟨by omega, ?_⟩; simp_all; done) | (simp_all; done) | (simp_all; omega))) fun _ => ?_; (try simp ))
      exact hq 6 _ (by omega) (by omega) (by simp [namW, rowW, range_succ', leEls_refl])
    · simp at h3
  · simp [namW, rowW, range_succ']
    try simp 
    repeat (refine PreK.intro (by first | omega | (intros; first | omega | (refine ⟨by omega, ?_⟩; simp_all; done) | (simp_all; done) | (simp_all; omega))) fun _ => ?_; (try simp ))
    refine CondK.intro (fun h3 => ?_) (fun h3 => ?_)
    · simp at h3
    · apply he
      try simp 
      repeat (refine PreK.intro (by first | omega | (intros; first | omega | (refine ⟨by omega, ?_⟩; simp_all; done) | (simp_all; done) | (simp_all; omega))) fun _ => ?_; (try simp ))
      refine ⟨[1100, 1101, 1102, 1103, 1104, 1105, 1008], ?_⟩
      have hl0 : ((el t 0).eraseIdx p).length = (el t 0).length - 1 := List.length_eraseIdx_of_lt (hr 0 (by omega))
      have ht0 : List.take ((el t 0).length - 1) (List.map iv ((el t 0).eraseIdx p) ++ [AV.raw (.int .i64 0)]) = List.map iv ((el t 0).eraseIdx p) := by
        rw [List.take_append_of_le_length (by rw [List.length_map]; omega), List.take_of_length_le (by rw [List.length_map]; omega)]
      have hk0 : (el t 0).length ≤ (el t 0).length - 1 + 1 + 1 := by omega
      have hl1 : ((el t 1).eraseIdx p).length = (el t 1).length - 1 := List.length_eraseIdx_of_lt (hr 1 (by omega))
      have ht1 : List.take ((el t 1).length - 1) (List.map iv ((el t 1).eraseIdx p) ++ [AV.raw (.int .i64 0)]) = List.map iv ((el t 1).eraseIdx p) := by
        rw [List.take_append_of_le_length (by rw [List.length_map]; omega), List.take_of_length_le (by rw [List.length_map]; omega)]
      have hk1 : (el t 1).length ≤ (el t 1).length - 1 + 1 + 1 := by omega
      have hl2 : ((el t 2).eraseIdx p).length = (el t 2).length - 1 := List.length_eraseIdx_of_lt (hr 2 (by omega))
      have ht2 : List.take ((el t 2).length - 1) (List.map iv ((el t 2).eraseIdx p) ++ [AV.raw (.int .i64 0)]) = List.map iv ((el t 2).eraseIdx p) := by
        rw [List.take_append_of_le_length (by rw [List.length_map]; omega), List.take_of_length_le (by rw [List.length_map]; omega)]
      have hk2 : (el t 2).length ≤ (el t 2).length - 1 + 1 + 1 := by omega
      have hl3 : ((el t 3).eraseIdx p).length = (el t 3).length - 1 := List.length_eraseIdx_of_lt (hr 3 (by omega))
      have ht3 : List.take ((el t 3).length - 1) (List.map iv ((el t 3).eraseIdx p) ++ [AV.raw (.int .i64 0)]) = List.map iv ((el t 3).eraseIdx p) := by
        rw [List.take_append_of_le_length (by rw [List.length_map]; omega), List.take_of_length_le (by rw [List.length_map]; omega)]
      have hk3 : (el t 3).length ≤ (el t 3).length - 1 + 1 + 1 := by omega
      have hl4 : ((el t 4).eraseIdx p).length = (el t 4).length - 1 := List.length_eraseIdx_of_lt (hr 4 (by omega))
      have ht4 : List.take ((el t 4).length - 1) (List.map iv ((el t 4).eraseIdx p) ++ [AV.raw (.int .i64 0)]) = List.map iv ((el t 4).eraseIdx p) := by
        rw [List.take_append_of_le_length (by rw [List.length_map]; omega), List.take_of_length_le (by rw [List.length_map]; omega)]
      have hk4 : (el t 4).length ≤ (el t 4).length - 1 + 1 + 1 := by omega
      have hl5 : ((el t 5).eraseIdx p).length = (el t 5).length - 1 := List.length_eraseIdx_of_lt (hr 5 (by omega))
      have ht5 : List.take ((el t 5).length - 1) (List.map iv ((el t 5).eraseIdx p) ++ [AV.raw (.int .i64 0)]) = List.map iv ((el t 5).eraseIdx p) := by
        rw [List.take_append_of_le_length (by rw [List.length_map]; omega), List.take_of_length_le (by rw [List.length_map]; omega)]
      have hk5 : (el t 5).length ≤ (el t 5).length - 1 + 1 + 1 := by omega
      simp [hl0, ht0, hk0, hl1, ht1, hk1, hl2, ht2, hk2, hl3, ht3, hk3, hl4, ht4, hk4, hl5, ht5, hk5, outW, range_succ']
      done
end Go.Proofs.Ytnpkaemlidifgaa
end

section
/- Contracts: a place less; the statement StemmaWithout. -/
namespace Go.Proofs.Ytnpkaemlidifgaa
open Go.Abs Go
set_option maxRecDepth 20000
set_option maxHeartbeats 2000000
attribute [local irreducible] PreK CondK CallK CallG CallX LoopK
attribute [local simp] avsEq avEq akind teq vkind vEq

theorem map_el (f : List Int → AV) (t : List (List Int)) : (List.range t.length).map (fun j => f (el t j)) = t.map f := by
  apply List.ext_getElem
  · simp
  · intro i h1 h2
    have hi : i < t.length := by simpa using h1
    simp [el_eq t i hi]
theorem out_eq (t : List (List Int)) (p : Nat) : outW t p t.length = (lessM t p).map ints := by
  unfold outW lessM
  rw [List.map_map]
  exact map_el (fun r => ints (r.eraseIdx p)) t
def WithoutR (t : List (List Int)) (p : Int) : List (List Int) × Int := if placedErr t [p] ≠ 0 then ([], placedErr t [p]) else if (el t 0).length = 1 then ([], 1) else (lessM t p.toNat, 0)
theorem placed_zeroW {t : List (List Int)} {p : Int} (h : placedErr t [p] = 0) : Rds t ∧ 0 ≤ p ∧ p.toNat < wid t := by
  unfold placedErr at h
  split at h
  · rename_i h1; exact absurd h h1
  · rename_i h1
    split at h
    · cases h
    · rename_i h2
      simp [noPlace] at h2
      exact ⟨vErr_zero (by simpa using h1), by omega, by omega⟩
theorem Without_c (t : List (List Int)) (p : Int) (h : Sm t) : CallP Try.prog 51 [rdsV t, iv p] (.tup [rdsV (WithoutR t p).1, iv (WithoutR t p).2]) := by
  have hp := placed_c t [p] h (by simp)
  unfold WithoutR
  by_cases h1 : placedErr t [p] = 0
  · obtain ⟨hrd, hp0, hpw⟩ := placed_zeroW h1
    have hpos : 0 < t.length := by have := hrd.pos; omega
    rw [if_neg (by simpa using h1)]
    by_cases h2 : (el t 0).length = 1
    · rw [if_pos h2]
      rw [h1] at hp
      have h2' : ((el t 0).length : Int) = 1 := by omega
      refine C51 (by simp) ?_
      simp [A51]
      try simp 
      repeat' (first
        | (refine CallX.pure (hp) (by simp) (by simp) ?_; try simp )
        | (refine CallK.intro (hp) (by simp) (by simp) ?_; try simp )
        | (refine CallG.intro (fun _ => hp) (by simp) (by simp) ?_; try simp )
        | ((with_reducible refine PreK.intro ?_ ?_); (next => (first | omega | (intros; first | omega | (refine ⟨by omega, ?_⟩; repeat (first | assumption | constructor)) | assumption))); intro _; try simp )
        | fail)
      try simp 
      repeat (refine PreK.intro (by first | omega | (intros; first | omega | (refine ⟨by omega, ?_⟩; simp_all; done) | (simp_all; done) | (simp_all; omega))) fun _ => ?_; (try simp ))
      refine CondK.ff ?_
      try simp 
      try simp [hpos, h2, h2']
      repeat (refine PreK.intro (by first | omega | (intros; first | omega | (refine ⟨by omega, ?_⟩; simp_all; done) | (simp_all; done) | (simp_all; omega))) fun _ => ?_; (try simp [hpos, h2, h2']))
      refine CondK.tt ?_
      try simp 
      try simp 
      repeat (refine PreK.intro (by first | omega | (intros; first | omega | (refine ⟨by omega, ?_⟩; simp_all; done) | (simp_all; done) | (simp_all; omega))) fun _ => ?_; (try simp ))
    · rw [if_neg h2]
      obtain ⟨k, rfl⟩ := Int.eq_ofNat_of_zero_le hp0
      rw [Int.toNat_natCast] at hpw ⊢
      have hr : ∀ j, j < t.length → k < (el t j).length := fun j hj => by rw [hrd.row hj]; exact hpw
      have hw : ∀ j, (el t j).length ≤ 6 := by
        intro j
        by_cases hj : j < t.length
        · rw [hrd.row hj]; exact hrd.w6
        · unfold el; rw [List.getD_eq_getElem?_getD, List.getElem?_eq_none (by omega)]; show (0 : Nat) ≤ 6; omega
      have hn : t.length = 1 ∨ t.length = 2 ∨ t.length = 3 ∨ t.length = 4 ∨ t.length = 5 ∨ t.length = 6 := by have := hrd.num; omega
      have key : CallP Try.prog 51 [rdsV t, iv (k : Int)] (.tup [.seq 1 (outW t k t.length) false, iv 0]) := by
        rcases hn with e | e | e | e | e | e
        · rw [e] at hr ⊢; exact without1 t k e h h1 hw hr h2
        · rw [e] at hr ⊢; exact without2 t k e h h1 hw hr h2
        · rw [e] at hr ⊢; exact without3 t k e h h1 hw hr h2
        · rw [e] at hr ⊢; exact without4 t k e h h1 hw hr h2
        · rw [e] at hr ⊢; exact without5 t k e h h1 hw hr h2
        · rw [e] at hr ⊢; exact without6 t k e h h1 hw hr h2
      rw [out_eq] at key
      exact key
  · rw [if_pos h1]
    refine C51 (by simp) ?_
    simp [A51]
    try simp 
    repeat' (first
      | (refine CallX.pure (hp) (by simp) (by simp) ?_; try simp )
      | (refine CallK.intro (hp) (by simp) (by simp) ?_; try simp )
      | (refine CallG.intro (fun _ => hp) (by simp) (by simp) ?_; try simp )
      | ((with_reducible refine PreK.intro ?_ ?_); (next => (first | omega | (intros; first | omega | (refine ⟨by omega, ?_⟩; repeat (first | assumption | constructor)) | assumption))); intro _; try simp )
      | fail)
    try simp [h1]
    repeat (refine PreK.intro (by first | omega | (intros; first | omega | (refine ⟨by omega, ?_⟩; simp_all; done) | (simp_all; done) | (simp_all; omega))) fun _ => ?_; (try simp [h1]))
    refine CondK.tt ?_
    try simp 
    try simp 
    repeat (refine PreK.intro (by first | omega | (intros; first | omega | (refine ⟨by omega, ?_⟩; simp_all; done) | (simp_all; done) | (simp_all; omega))) fun _ => ?_; (try simp ))
end Go.Proofs.Ytnpkaemlidifgaa
end

section
/- Contracts: slices.Delete of one element; a copy less; the statement StemmaLoses. -/
namespace Go.Proofs.Ytnpkaemlidifgaa
open Go.Abs Go
set_option maxRecDepth 20000
set_option maxHeartbeats 2000000
attribute [local irreducible] PreK CondK CallK CallG CallX LoopK
attribute [local simp] avsEq avEq akind teq vkind vEq

end Go.Proofs.Ytnpkaemlidifgaa
end

section
/- Contracts: the statement StemmaWithout. -/
namespace Go.Proofs.Ytnpkaemlidifgaa
open Go.Abs Go
set_option maxRecDepth 20000
set_option maxHeartbeats 2000000
attribute [local irreducible] PreK CondK CallK CallG CallX LoopK
attribute [local simp] avsEq avEq akind teq vkind vEq

theorem vErr_of {t : List (List Int)} (h : Rds t) : vErr t = 0 := by
  unfold vErr
  have n1 := h.pos
  have n2 := h.num
  have n3 := h.w6
  unfold wid at n3
  rw [if_neg (by omega), if_neg (by omega), if_neg ?_]
  simp only [List.any_eq_true, not_exists, not_and]
  intro r hr hbad
  unfold rowBad at hbad
  simp only [Bool.or_eq_true, decide_eq_true_eq, List.any_eq_true] at hbad
  rcases hbad with h1 | ⟨x, hx, h1⟩
  · exact h1 (h.rows r hr)
  · have := h.rd r hr x hx
    unfold okR at h1
    simp at h1
    omega
theorem Rds.sm {t : List (List Int)} (h : Rds t) : Sm t := ⟨by have := h.num; omega, fun r hr => by have := h.rows r hr; have := h.w6; omega⟩
end Go.Proofs.Ytnpkaemlidifgaa
end

section
/- Plain: all places but those of the greatest set left out; what the greatest set says about conflicts. -/
namespace Go.Proofs.Ytnpkaemlidifgaa
open Go.Abs Go

/-- Places are left out from the last on, but for those that are kept, and never the only one. -/
def lessF (most : List Int) : Nat → List (List Int) → List (List Int)
  | 0, l => l
  | p + 1, l => lessF most p (if (p : Int) ∈ most ∨ wid l = 1 then l else lessM l p)
structure LessOK (t : List (List Int)) (most : List Int) (p : Nat) (l : List (List Int)) : Prop where
  rds : Rds l
  len : l.length = t.length
  wd : p ≤ wid l
  map : ∃ f : Nat → Nat, (∀ q, colM l q = colM t (f q)) ∧ (∀ q r, q < r → f q < f r) ∧ (∀ q, q < p → f q = q) ∧ (∀ q, q < wid l → f q < wid t) ∧ (wid l = 1 ∨ ∀ q, p ≤ q → q < wid l → ((f q : Nat) : Int) ∈ most)
theorem LessOK.start {t : List (List Int)} (h : Rds t) (most : List Int) : LessOK t most (wid t) t :=
  ⟨h, rfl, Nat.le_refl _, fun q => q, fun _ => rfl, fun _ _ h => h, fun _ _ => rfl, fun _ h => h, .inr fun q h1 h2 => by omega⟩
theorem LessOK.step {t l : List (List Int)} {most : List Int} {p : Nat} (h : LessOK t most (p + 1) l) : LessOK t most p (if (p : Int) ∈ most ∨ wid l = 1 then l else lessM l p) := by
  obtain ⟨h1, h2, h3, f, f1, f2, f3, f4, f5⟩ := h
  by_cases hk : (p : Int) ∈ most ∨ wid l = 1
  · rw [if_pos hk]
    refine ⟨h1, h2, by omega, f, f1, f2, fun q hq => f3 q (by omega), f4, ?_⟩
    rcases hk with hk | hk
    · rcases f5 with f5 | f5
      · exact .inl f5
      · refine .inr fun q h4 h5 => ?_
        by_cases e : q = p
        · rw [e, f3 p (by omega)]; exact hk
        · exact f5 q (by omega) h5
    · exact .inl hk
  · rw [if_neg hk]
    have hp : p < wid l := by omega
    have hw := less_wid h1 hp
    have hne : wid l ≠ 1 := fun e => hk (.inr e)
    refine ⟨less_rds h1 hp, by rw [less_len]; exact h2, by omega, fun q => f (if q < p then q else q + 1), fun q => by rw [less_col, f1], fun q r hqr => f2 _ _ (by split <;> split <;> omega), fun q hq => ?_, fun q hq => f4 _ (by rw [hw] at hq; split <;> omega), ?_⟩
    · dsimp only
      rw [if_pos hq]
      exact f3 q (by omega)
    · rcases f5 with f5 | f5
      · exact absurd f5 hne
      · refine .inr fun q h4 h5 => ?_
        dsimp only
        rw [if_neg (by omega)]
        exact f5 (q + 1) (by omega) (by omega)
theorem LessOK.run {t : List (List Int)} {most : List Int} : ∀ {p : Nat} {l : List (List Int)}, LessOK t most p l → LessOK t most 0 (lessF most p l)
  | 0, _, h => h
  | p + 1, l, h => by
    rw [lessF]
    exact LessOK.run (p := p) h.step
theorem less_calm {t l : List (List Int)} {most : List Int} (h : LessOK t most 0 l) (hm : ∀ q r : Nat, (q : Int) ∈ most → (r : Int) ∈ most → q < r → confM t q r = false) : confsM l = [] := by
  obtain ⟨h1, h2, h3, f, f1, f2, f3, f4, f5⟩ := h
  refine List.eq_nil_iff_forall_not_mem.2 fun x hx => ?_
  obtain ⟨a, b, c⟩ := mem_confs.1 hx
  rcases f5 with f5 | f5
  · omega
  · have : confM l x.1 x.2 = confM t (f x.1) (f x.2) := by unfold confM; rw [f1, f1]
    rw [this, hm _ _ (f5 _ (Nat.zero_le _) (by omega)) (f5 _ (Nat.zero_le _) b) (f2 _ _ a)] at c
    cases c
theorem calm_pair {t : List (List Int)} : ∀ {L : List Nat}, calmL t L = true → ∀ q ∈ L, ∀ r ∈ L, q ≠ r → confM t q r = false
  | [], _, q, hq, _, _, _ => by cases hq
  | p :: L, h, q, hq, r, hr, hn => by
    simp only [calmL, Bool.and_eq_true, List.all_eq_true, Bool.not_eq_true'] at h
    obtain ⟨⟨_, h2⟩, h3⟩ := h
    rcases List.mem_cons.1 hq with e1 | hq'
    · rcases List.mem_cons.1 hr with e2 | hr'
      · exact absurd (e1.trans e2.symm) hn
      · rw [confM_comm, e1]; exact h2 r hr'
    · rcases List.mem_cons.1 hr with e2 | hr'
      · rw [e2]; exact h2 q hq'
      · exact calm_pair h3 q hq' r hr' hn
theorem calm_splits {t : List (List Int)} : ∀ {L : List Nat}, calmL t L = true → ∀ q ∈ L, splits t q = true
  | [], _, q, hq => by cases hq
  | p :: L, h, q, hq => by
    simp only [calmL, Bool.and_eq_true] at h
    rcases List.mem_cons.1 hq with rfl | hq
    · exact h.1.1
    · exact calm_splits h.2 q hq
theorem calm_of {t : List (List Int)} : ∀ {L : List Nat}, L.Nodup → (∀ q ∈ L, splits t q = true) → (∀ q ∈ L, ∀ r ∈ L, q ≠ r → confM t q r = false) → calmL t L = true
  | [], _, _, _ => rfl
  | p :: L, hn, hs, hc => by
    rw [List.nodup_cons] at hn
    simp only [calmL, Bool.and_eq_true, List.all_eq_true, Bool.not_eq_true']
    exact ⟨⟨hs p (by simp), fun q hq => hc q (by simp [hq]) p (by simp) (fun e => hn.1 (e ▸ hq))⟩, calm_of hn.2 (fun q hq => hs q (by simp [hq])) (fun q hq r hr => hc q (by simp [hq]) r (by simp [hr]))⟩
theorem great_spec (t : List (List Int)) : ∃ L : List Nat, greatM t = L.map Int.ofNat ∧ L.Pairwise (· < ·) ∧ (∀ p ∈ L, p < wid t) ∧ calmL t L = true ∧
    ∀ M : List Nat, M.Pairwise (· < ·) → (∀ p ∈ M, p < wid t) → calmL t M = true → M.length ≤ L.length := by
  obtain ⟨h1, _, h3⟩ := bestL_spec (goodsF t (wid t) 0 (2 ^ wid t)) []
  have hex : ∃ L : List Nat, greatM t = L.map Int.ofNat ∧ L.Pairwise (· < ·) ∧ (∀ p ∈ L, p < wid t) ∧ calmL t L = true := by
    rcases h1 with h1 | h1
    · exact ⟨[], h1, by simp, by simp, rfl⟩
    · exact goods_iff.1 h1
  obtain ⟨L, e, h4, h5, h6⟩ := hex
  refine ⟨L, e, h4, h5, h6, fun M m1 m2 m3 => ?_⟩
  have := h3 (M.map Int.ofNat) (goods_iff.2 ⟨M, rfl, m1, m2, m3⟩)
  have e2 : bestL [] (goodsF t (wid t) 0 (2 ^ wid t)) = L.map Int.ofNat := e
  rw [e2] at this
  unfold better at this
  simp at this
  exact this.1
/-- The number of places that split. -/
def splitN (t : List (List Int)) (w : Nat) : Nat := ((List.range w).filter (splits t)).length
theorem splitN_succ (t : List (List Int)) (w : Nat) : splitN t (w + 1) = splitN t w + if splits t w then 1 else 0 := by
  unfold splitN
  rw [List.range_succ, List.filter_append, List.length_append]
  cases h : splits t w <;> simp [h]
theorem splitN_le (t : List (List Int)) (w : Nat) : splitN t w ≤ w := by
  unfold splitN
  have := List.length_filter_le (splits t) (List.range w)
  simpa using this
theorem great_split (t : List (List Int)) : confsM t = [] ↔ (greatM t).length = splitN t (wid t) := by
  obtain ⟨L, e, h1, h2, h3, h4⟩ := great_spec t
  have hln : (greatM t).length = L.length := by rw [e, List.length_map]
  have hnd : L.Nodup := h1.imp fun h => Nat.ne_of_lt h
  have hS : ∀ x, x ∈ (List.range (wid t)).filter (splits t) ↔ x < wid t ∧ splits t x = true := fun x => by simp
  have hsub : ∀ x ∈ L, x ∈ (List.range (wid t)).filter (splits t) := fun x hx => (hS x).2 ⟨h2 x hx, calm_splits h3 x hx⟩
  have hle : L.length ≤ splitN t (wid t) := nodup_le hnd hsub
  rw [hln]
  constructor
  · intro hc
    have hcn := confs_nil.1 hc
    have hsn : ((List.range (wid t)).filter (splits t)).Nodup := List.Pairwise.filter _ List.nodup_range
    have := h4 ((List.range (wid t)).filter (splits t)) (List.Pairwise.filter _ List.pairwise_lt_range) (fun p hp => ((hS p).1 hp).1)
      (calm_of hsn (fun q hq => ((hS q).1 hq).2) (fun q hq r hr hn => hcn q r ((hS q).1 hq).1 ((hS r).1 hr).1 hn))
    unfold splitN at hle ⊢
    omega
  · intro hl
    refine confs_nil.2 fun p q hp hq hn => ?_
    have hall : ∀ x, x < wid t → splits t x = true → x ∈ L := by
      intro x hx hs
      refine Decidable.by_contra fun hc => ?_
      have : (x :: L).length ≤ splitN t (wid t) := nodup_le (List.nodup_cons.2 ⟨hc, hnd⟩) (fun y hy => by
        rcases List.mem_cons.1 hy with rfl | hy
        · exact (hS _).2 ⟨hx, hs⟩
        · exact hsub y hy)
      simp only [List.length_cons] at this
      omega
    cases hcf : confM t p q with
    | false => rfl
    | true =>
      have h5 : splits t p = true ∧ splits t q = true := by
        unfold confM at hcf
        simp only [Bool.and_eq_true] at hcf
        exact ⟨hcf.1.1, hcf.1.2⟩
      rw [calm_pair h3 p (hall p hp h5.1) q (hall q hq h5.2) hn] at hcf
      cases hcf
theorem great_calm {t : List (List Int)} {q r : Nat} (hq : (q : Int) ∈ greatM t) (hr : (r : Int) ∈ greatM t) (h : q < r) : confM t q r = false := by
  obtain ⟨L, e, h1, h2, h3, h4⟩ := great_spec t
  rw [e] at hq hr
  obtain ⟨a, ha, ea⟩ := List.mem_map.1 hq
  obtain ⟨b, hb, eb⟩ := List.mem_map.1 hr
  have ea' : a = q := by have : ((a : Nat) : Int) = (q : Int) := ea; omega
  have eb' : b = r := by have : ((b : Nat) : Int) = (r : Int) := eb; omega
  subst ea' eb'
  exact calm_pair h3 _ ha _ hb (Nat.ne_of_lt h)
end Go.Proofs.Ytnpkaemlidifgaa
end

section
/- Plain: copies with the same readings. -/
namespace Go.Proofs.Ytnpkaemlidifgaa
open Go.Abs Go

def sumL : List (List Int) → Nat
  | [] => 0
  | g :: l => g.length + sumL l
structure DblOK (i : Nat) (out : List (List Int)) : Prop where
  len : out.length ≤ i
  sum : sumL out = i
  grp : ∀ g ∈ out, 0 < g.length ∧ g.length ≤ i ∧ ∀ x ∈ g, 0 ≤ x ∧ x < (i : Int)
end Go.Proofs.Ytnpkaemlidifgaa
end

section
/- Plain: which replacements of readings are right. -/
namespace Go.Proofs.Ytnpkaemlidifgaa
open Go.Abs Go

theorem mem_take_succ (l : List Int) (i : Nat) (h : i < l.length) (p : Int) : decide (p ∈ l.take (i + 1)) = (decide (p ∈ l.take i) || decide (el l i = p)) := by
  rw [take_succ l i h]
  by_cases h1 : p ∈ l.take i
  · simp [h1]
  · by_cases h2 : el l i = p
    · simp [h2]
    · have h3 : ¬ p = el l i := fun e => h2 e.symm
      simp [h1, h2, h3]
end Go.Proofs.Ytnpkaemlidifgaa
end

section
/- Contracts: the statement TopStemmas. -/
namespace Go.Proofs.Ytnpkaemlidifgaa
open Go.Abs Go
set_option maxRecDepth 20000
set_option maxHeartbeats 2000000
attribute [local irreducible] PreK CondK CallK CallG CallX LoopK
attribute [local simp] avsEq avEq akind teq vkind vEq

/-- The readings that are returned are right, with so few changes. -/
theorem read_few (t : List (List Int)) (par ats : List Int) (p : Int) : (ReadR t par ats p).2.1 = (FewR t par ats p).2.1 ∧ (ReadR t par ats p).2.2 = (FewR t par ats p).2.2 ∧
    ((FewR t par ats p).2.1 = true → (ReadR t par ats p).1.length ≤ 1000 ∧ CheckR t par ats p (ReadR t par ats p).1 = ((FewR t par ats p).1, 0)) := by
  unfold ReadR FewR
  by_cases h1 : fitsErr t par ats [p] = 0
  · rw [if_neg (by simpa using h1), if_neg (by simpa using h1)]
    obtain ⟨hr, hx, hl, hpl, _⟩ := fits_zero h1
    obtain ⟨n, rfl, hn⟩ := placed_nat hpl (List.mem_singleton.2 rfl)
    rw [Int.toNat_natCast]
    cases hbr : bestR par (prs t ats n) with
    | none => exact ⟨rfl, rfl, fun h => (by simp at h)⟩
    | some o =>
      refine ⟨rfl, rfl, fun _ => ?_⟩
      obtain ⟨q1, q2, q3, _⟩ := best_fits hr hx hl hn hbr
      have htop := hx.top
      refine ⟨by dsimp only; omega, ?_⟩
      unfold CheckR
      rw [if_neg (by simpa using h1), if_neg (by simpa using q1), if_neg, if_neg]
      · simp only [misfit, Int.toNat_natCast, Bool.not_eq_true, List.any_eq_false, decide_eq_true_eq, ne_eq, Decidable.not_not]
        exact q3
      · simp only [Bool.not_eq_true, List.any_eq_false, Bool.not_eq_true', Bool.not_eq_false]
        intro x hx2
        obtain ⟨i, hi, rfl⟩ := List.getElem_of_mem hx2
        have h3 := q2 i (by omega)
        have h4 : el o i = o[i] := by simp [el, List.getD_eq_getElem?_getD, hi]
        rw [h4] at h3
        rcases h3 with h3 | h3 | h3 <;> simp [okR, h3]
  · rw [if_pos h1, if_pos h1]
    exact ⟨rfl, rfl, fun h => (by simp at h)⟩
theorem placed_is {t : List (List Int)} (h : Rds t) {p : Nat} (hp : p < wid t) : placedErr t [(p : Int)] = 0 := by
  unfold placedErr
  rw [if_neg (by simp [vErr_of h])]
  simp [noPlace]
  omega
theorem side_is {t : List (List Int)} (h : Rds t) {p : Nat} (hp : p < wid t) : (SideR t p).2 = (splits t p, 0) := by
  unfold SideR
  rw [placed_is h hp, if_neg (by decide), Int.toNat_natCast]
  unfold splits
  by_cases hd : diffN (colM t p) = 2
  · rw [if_pos hd, decide_eq_true hd]
  · rw [if_neg hd, decide_eq_false hd]
theorem diff_is {t : List (List Int)} (h : Rds t) {p : Nat} (hp : p < wid t) : DiffR t p = (((diffN (colM t p) : Nat) : Int), 0) := by
  unfold DiffR
  rw [placed_is h hp, if_neg (by decide), Int.toNat_natCast]
theorem diff_bnd {t : List (List Int)} (h : Rds t) (p : Nat) : diffN (colM t p) ≤ 6 := by
  have := diffN_len (colM t p)
  rw [colM_len] at this
  have := h.num
  omega
theorem without_is {t : List (List Int)} (h : Rds t) {p : Nat} (hp : p < wid t) (h1 : wid t ≠ 1) : WithoutR t (p : Int) = (lessM t p, 0) := by
  unfold WithoutR
  rw [placed_is h hp, if_neg (by decide), if_neg (by unfold wid at h1; exact h1), Int.toNat_natCast]
theorem can_is {t : List (List Int)} (h : Rds t) : CanR t = (decide ((confsM t).length = 0), 0) := by
  unfold CanR; rw [if_neg (by simp [vErr_of h])]
theorem tot_is {t : List (List Int)} {par ats : List Int} : ((TotR t par ats).2.2 ≠ 0 ∨ (TotR t par ats).2.1 = false → (TotR t par ats).1 = 0) ∧ ((TotR t par ats).2.2 = 0 ∧ (TotR t par ats).2.1 = true → diffs t 0 (wid t) ≤ (TotR t par ats).1) := by
  unfold TotR
  by_cases h1 : fitsErr t par ats [] = 0
  · rw [if_neg (by simpa using h1)]
    obtain ⟨hr, hx, hl, _, _⟩ := fits_zero h1
    cases hM : totM t par ats with
    | none => exact ⟨fun _ => rfl, fun h => by simp at h⟩
    | some s =>
      refine ⟨fun h => ?_, fun _ => tot_diffs hr hx hl (wid t) 0 s (by omega) hM⟩
      simp at h
  · rw [if_pos h1]
    exact ⟨fun _ => rfl, fun h => absurd h.1 h1⟩
theorem diffs_step (t : List (List Int)) (p n : Nat) (h : p < n) : diffs t p (n - p) = ((diffN (colM t p) : Int) - 1) + diffs t (p + 1) (n - (p + 1)) := by
  rw [show n - p = (n - (p + 1)) + 1 by omega, diffs]
theorem lawTopStemmas_c (t : List (List Int)) (par ats : List Int) (hb : t.length ≤ big) : CallP Try.prog 17 [rdsV t, treeV par ats] (bv true) := by
  refine C17 (by simp) ?_
  have hlg := Long7_c t hb
  have hla := Large7_c par ats
  have s0 : Sm [[0, 0], [1, 1]] := ⟨by decide, by decide⟩
  have c0 := Total_c [[0, 0], [1, 1]] [-1, 0] [0, 1] s0 (by decide) (by decide)
  have e0 : TotR [[0, 0], [1, 1]] [-1, 0] [0, 1] = (2, true, 0) := by kernel_rfl
  rw [e0] at c0
  dsimp only at c0
  simp [A17]
  try simp 
  repeat (refine PreK.intro (by first | omega | (intros; first | omega | (refine ⟨by omega, ?_⟩; simp_all; done) | (simp_all; done) | (simp_all; omega))) fun _ => ?_; (try simp ))
  refine CallX.pure (CallP.weak (by simpa [weakL, weak] using c0)) (by simp) (by simp) ?_
  try simp 
  refine CondK.ff ?_
  try simp 
  try simp 
  repeat (refine PreK.intro (by first | omega | (intros; first | omega | (refine ⟨by omega, ?_⟩; simp_all; done) | (simp_all; done) | (simp_all; omega))) fun _ => ?_; (try simp ))
  cases hL : longT t with
  | true =>
    rw [hL] at hlg
    try simp 
    repeat' (first
      | (refine CallX.pure (hlg) (by simp) (by simp) ?_; try simp )
      | (refine CallK.intro (hlg) (by simp) (by simp) ?_; try simp )
      | (refine CallG.intro (fun _ => hlg) (by simp) (by simp) ?_; try simp )
      | ((with_reducible refine PreK.intro ?_ ?_); (next => (first | omega | (intros; first | omega | (refine ⟨by omega, ?_⟩; repeat (first | assumption | constructor)) | assumption))); intro _; try simp )
      | fail)
    refine CallG.intro (r := bv true) (fun hh => by cases hh) (by simp) (by simp) ?_
    try simp 
    refine CondK.tt ?_
    try simp 
    try simp 
    repeat (refine PreK.intro (by first | omega | (intros; first | omega | (refine ⟨by omega, ?_⟩; simp_all; done) | (simp_all; done) | (simp_all; omega))) fun _ => ?_; (try simp ))
  | false =>
    rw [hL] at hlg
    try simp 
    repeat' (first
      | (refine CallX.pure (hlg) (by simp) (by simp) ?_; try simp )
      | (refine CallK.intro (hlg) (by simp) (by simp) ?_; try simp )
      | (refine CallG.intro (fun _ => hlg) (by simp) (by simp) ?_; try simp )
      | (refine CallX.pure (hla) (by simp) (by simp) ?_; try simp )
      | (refine CallK.intro (hla) (by simp) (by simp) ?_; try simp )
      | (refine CallG.intro (fun _ => hla) (by simp) (by simp) ?_; try simp )
      | ((with_reducible refine PreK.intro ?_ ?_); (next => (first | omega | (intros; first | omega | (refine ⟨by omega, ?_⟩; repeat (first | assumption | constructor)) | assumption))); intro _; try simp )
      | fail)
    cases hG : largeT par ats with
    | true =>
      refine CondK.tt ?_
      try simp 
      try simp 
      repeat (refine PreK.intro (by first | omega | (intros; first | omega | (refine ⟨by omega, ?_⟩; simp_all; done) | (simp_all; done) | (simp_all; omega))) fun _ => ?_; (try simp ))
    | false =>
      refine CondK.ff ?_
      try simp 
      try simp 
      repeat (refine PreK.intro (by first | omega | (intros; first | omega | (refine ⟨by omega, ?_⟩; simp_all; done) | (simp_all; done) | (simp_all; omega))) fun _ => ?_; (try simp ))
      obtain ⟨hs, _, _⟩ := longT_small hL
      obtain ⟨hp, ha⟩ := largeT_small hG
      have c1 := CanTree_c t hs
      by_cases hv : vErr t = 0
      · have hrd := vErr_zero hv
        have hw6 := hrd.w6
        have hnum := hrd.num
        have hpos : 0 < t.length := by have := hrd.pos; omega
        have hwd : (el t 0).length = wid t := rfl
        have hbl := @build_law t
        have c2 := Build_c t hs
        have c3 := Greatest_c t hs
        have c4 := Conflicts_c t hs
        have e3 : GreatR t = (greatM t, 0) := by unfold GreatR; rw [if_neg (by simpa using hv)]
        have e4 : ConfsR t = (confsM t, 0) := by unfold ConfsR; rw [if_neg (by simpa using hv)]
        have hgl := great_len t
        have hcl := confs_len t hw6
        have hgs := great_split t
        have hsl := splitN_le t (wid t)
        rw [can_is hrd] at c1 hbl
        rw [e3] at c3
        rw [e4] at c4
        generalize hB : BuildR t = B at c2 hbl
        obtain ⟨⟨B1, B2⟩, B3, B4⟩ := B
        dsimp only at c1 c2 c3 c4 hbl
        obtain ⟨rfl, rfl, hbf, hbt⟩ := hbl
        generalize hC : decide ((confsM t).length = 0) = can at *
        have hgs2 : decide ((greatM t).length = splitN t (wid t)) = can := by
          rw [← hC]
          by_cases h : (greatM t).length = splitN t (wid t)
          · rw [decide_eq_true h, hgs.2 h]; rfl
          · have h2 : ¬ (confsM t).length = 0 := fun h2 => h (hgs.1 (List.eq_nil_of_length_eq_zero h2))
            rw [decide_eq_false h, decide_eq_false h2]
        have hCi : decide (((confsM t).length : Int) = 0) = can := by
          rw [← hC]
          by_cases h : (confsM t).length = 0
          · rw [decide_eq_true h, decide_eq_true (by omega)]
          · rw [decide_eq_false h, decide_eq_false (by omega)]
        have hgi : decide (((greatM t).length : Int) = (splitN t (wid t) : Nat)) = can := by
          rw [← hgs2]
          by_cases h : (greatM t).length = splitN t (wid t)
          · rw [decide_eq_true h, decide_eq_true (by omega)]
          · rw [decide_eq_false h, decide_eq_false (by omega)]
        try simp 
        repeat' (first
          | (refine CallX.pure (c1) (by simp) (by simp) ?_; try simp )
          | (refine CallK.intro (c1) (by simp) (by simp) ?_; try simp )
          | (refine CallG.intro (fun _ => c1) (by simp) (by simp) ?_; try simp )
          | ((with_reducible refine PreK.intro ?_ ?_); (next => (first | omega | (intros; first | omega | (refine ⟨by omega, ?_⟩; repeat (first | assumption | constructor)) | assumption))); intro _; try simp )
          | fail)
        refine CondK.ff ?_
        try simp 
        try simp 
        repeat (refine PreK.intro (by first | omega | (intros; first | omega | (refine ⟨by omega, ?_⟩; simp_all; done) | (simp_all; done) | (simp_all; omega))) fun _ => ?_; (try simp ))
        have hCn : decide (confsM t = []) = can := by
          rw [← hC]
          cases hc9 : confsM t with
          | nil => rfl
          | cons x l => rfl
        try simp 
        repeat' (first
          | (refine CallX.pure (c2) (by simp) (by simp) ?_; try simp )
          | (refine CallK.intro (c2) (by simp) (by simp) ?_; try simp )
          | (refine CallG.intro (fun _ => c2) (by simp) (by simp) ?_; try simp )
          | (refine CallX.pure (c3) (by simp) (by simp) ?_; try simp )
          | (refine CallK.intro (c3) (by simp) (by simp) ?_; try simp )
          | (refine CallG.intro (fun _ => c3) (by simp) (by simp) ?_; try simp )
          | (refine CallX.pure (c4) (by simp) (by simp) ?_; try simp )
          | (refine CallK.intro (c4) (by simp) (by simp) ?_; try simp )
          | (refine CallG.intro (fun _ => c4) (by simp) (by simp) ?_; try simp )
          | ((with_reducible refine PreK.intro ?_ ?_); (next => (first | omega | (intros; first | omega | (refine ⟨by omega, ?_⟩; repeat (first | assumption | constructor)) | assumption))); intro _; try simp )
          | fail)
        try simp [hCi, hCn]
        repeat (refine PreK.intro (by first | omega | (intros; first | omega | (refine ⟨by omega, ?_⟩; simp_all; done) | (simp_all; done) | (simp_all; omega))) fun _ => ?_; (try simp [hCi, hCn]))
        refine CondK.ff ?_
        try simp 
        try simp 
        repeat (refine PreK.intro (by first | omega | (intros; first | omega | (refine ⟨by omega, ?_⟩; simp_all; done) | (simp_all; done) | (simp_all; omega))) fun _ => ?_; (try simp ))
        refine LoopK.by (ι := Nat) (fun p => ⟨[(17, iv p), (16, iv (splitN t p : Nat)), (0, rdsV t), (3, .pt 3 1 0 0), (8, bv can), (9, .pt 9 1 0 0), (10, bv can), (12, ints (greatM t))], [(9, some ⟨2, [treeV B1 B2], 1, true⟩), (3, some ⟨2, [treeV par ats], 1, true⟩)]⟩) (fun p => wid t - p) (fun p => p ≤ wid t) 0 (Nat.zero_le _) (by simp [splitN]) ?_
        intro p Q' hpw hq he hr
        have hspl := splitN_le t p
        have hss := splitN_succ t p
        by_cases h1 : p < wid t
        · have h1' : (p : Int) < wid t := by omega
          have s1 := Side_c t p hs
          have s2 := side_is hrd h1
          generalize hSd : SideR t (p : Int) = S at s1 s2
          obtain ⟨S1, S2, S3⟩ := S
          dsimp only at s1 s2
          obtain ⟨rfl, rfl⟩ : S2 = splits t p ∧ S3 = 0 := by simpa using s2
          try simp [hpos, hwd, h1, h1']
          repeat (refine PreK.intro (by first | omega | (intros; first | omega | (refine ⟨by omega, ?_⟩; simp_all; done) | (simp_all; done) | (simp_all; omega))) fun _ => ?_; (try simp [hpos, hwd, h1, h1']))
          refine CondK.tt ?_
          try simp 
          try simp 
          repeat' (first
            | (refine CallX.pure (s1) (by simp) (by simp) ?_; try simp )
            | (refine CallK.intro (s1) (by simp) (by simp) ?_; try simp )
            | (refine CallG.intro (fun _ => s1) (by simp) (by simp) ?_; try simp )
            | ((with_reducible refine PreK.intro ?_ ?_); (next => (first | omega | (intros; first | omega | (refine ⟨by omega, ?_⟩; repeat (first | assumption | constructor)) | assumption))); intro _; try simp )
            | fail)
          refine CondK.ff ?_
          try simp 
          try simp 
          repeat (refine PreK.intro (by first | omega | (intros; first | omega | (refine ⟨by omega, ?_⟩; simp_all; done) | (simp_all; done) | (simp_all; omega))) fun _ => ?_; (try simp ))
          cases hsp : splits t p with
          | false =>
            rw [hsp] at hss
            try simp 
            repeat (refine PreK.intro (by first | omega | (intros; first | omega | (refine ⟨by omega, ?_⟩; simp_all; done) | (simp_all; done) | (simp_all; omega))) fun _ => ?_; (try simp ))
            refine CondK.ff ?_
            try simp 
            try simp 
            repeat (refine PreK.intro (by first | omega | (intros; first | omega | (refine ⟨by omega, ?_⟩; simp_all; done) | (simp_all; done) | (simp_all; omega))) fun _ => ?_; (try simp ))
            refine CondK.tt ?_
            try simp 
            try simp 
            repeat (refine PreK.intro (by first | omega | (intros; first | omega | (refine ⟨by omega, ?_⟩; simp_all; done) | (simp_all; done) | (simp_all; omega))) fun _ => ?_; (try simp ))
            exact hq (p + 1) _ (by omega) (by omega) (by simp [hss])
          | true =>
            rw [hsp] at hss
            try simp 
            repeat (refine PreK.intro (by first | omega | (intros; first | omega | (refine ⟨by omega, ?_⟩; simp_all; done) | (simp_all; done) | (simp_all; omega))) fun _ => ?_; (try simp ))
            refine CondK.tt ?_
            try simp 
            try simp 
            repeat (refine PreK.intro (by first | omega | (intros; first | omega | (refine ⟨by omega, ?_⟩; simp_all; done) | (simp_all; done) | (simp_all; omega))) fun _ => ?_; (try simp ))
            cases can with
            | false =>
              try simp 
              repeat (refine PreK.intro (by first | omega | (intros; first | omega | (refine ⟨by omega, ?_⟩; simp_all; done) | (simp_all; done) | (simp_all; omega))) fun _ => ?_; (try simp ))
              refine CondK.tt ?_
              try simp 
              try simp 
              repeat (refine PreK.intro (by first | omega | (intros; first | omega | (refine ⟨by omega, ?_⟩; simp_all; done) | (simp_all; done) | (simp_all; omega))) fun _ => ?_; (try simp ))
              exact hq (p + 1) _ (by omega) (by omega) (by simp [hss])
            | true =>
              obtain ⟨_, b1, b2, b3, b4⟩ := hbt rfl
              have hd2 : diffN (colM t p) = 2 := by unfold splits at hsp; simpa using hsp
              have f0 := (b4 p h1).2 hd2
              have f1 := Fewest_c t B1 B2 p hs (by omega) (by omega)
              have f2 := Readings_c t B1 B2 p hs (by omega) (by omega)
              obtain ⟨r1, r2, r3⟩ := read_few t B1 B2 (p : Int)
              have f3 := CheckReadings_c t B1 B2 p (ReadR t B1 B2 (p : Int)).1 hs (by omega) (by omega)
              rw [f0] at f1 r1 r2 r3
              dsimp only at f1 r1 r2 r3
              obtain ⟨r4, r5⟩ := r3 rfl
              have f4 := f3 r4
              rw [r5] at f4
              rw [r1, r2] at f2
              generalize (ReadR t B1 B2 (p : Int)).1 = A1 at *
              dsimp only at f4
              refine CondK.ff ?_
              try simp 
              try simp 
              repeat (refine PreK.intro (by first | omega | (intros; first | omega | (refine ⟨by omega, ?_⟩; simp_all; done) | (simp_all; done) | (simp_all; omega))) fun _ => ?_; (try simp ))
              try simp 
              repeat' (first
                | (refine CallX.pure (f1) (by simp) (by simp) ?_; try simp )
                | (refine CallK.intro (f1) (by simp) (by simp) ?_; try simp )
                | (refine CallG.intro (fun _ => f1) (by simp) (by simp) ?_; try simp )
                | ((with_reducible refine PreK.intro ?_ ?_); (next => (first | omega | (intros; first | omega | (refine ⟨by omega, ?_⟩; repeat (first | assumption | constructor)) | assumption))); intro _; try simp )
                | fail)
              try simp 
              repeat (refine PreK.intro (by first | omega | (intros; first | omega | (refine ⟨by omega, ?_⟩; simp_all; done) | (simp_all; done) | (simp_all; omega))) fun _ => ?_; (try simp ))
              try simp 
              repeat' (first
                | (refine CallX.pure (f2) (by simp) (by simp) ?_; try simp )
                | (refine CallK.intro (f2) (by simp) (by simp) ?_; try simp )
                | (refine CallG.intro (fun _ => f2) (by simp) (by simp) ?_; try simp )
                | ((with_reducible refine PreK.intro ?_ ?_); (next => (first | omega | (intros; first | omega | (refine ⟨by omega, ?_⟩; repeat (first | assumption | constructor)) | assumption))); intro _; try simp )
                | fail)
              try simp 
              repeat (refine PreK.intro (by first | omega | (intros; first | omega | (refine ⟨by omega, ?_⟩; simp_all; done) | (simp_all; done) | (simp_all; omega))) fun _ => ?_; (try simp ))
              try simp 
              repeat' (first
                | (refine CallX.pure (f4) (by simp) (by simp) ?_; try simp )
                | (refine CallK.intro (f4) (by simp) (by simp) ?_; try simp )
                | (refine CallG.intro (fun _ => f4) (by simp) (by simp) ?_; try simp )
                | ((with_reducible refine PreK.intro ?_ ?_); (next => (first | omega | (intros; first | omega | (refine ⟨by omega, ?_⟩; repeat (first | assumption | constructor)) | assumption))); intro _; try simp )
                | fail)
              try simp 
              repeat (refine PreK.intro (by first | omega | (intros; first | omega | (refine ⟨by omega, ?_⟩; simp_all; done) | (simp_all; done) | (simp_all; omega))) fun _ => ?_; (try simp ))
              refine CondK.ff ?_
              try simp 
              try simp 
              repeat (refine PreK.intro (by first | omega | (intros; first | omega | (refine ⟨by omega, ?_⟩; simp_all; done) | (simp_all; done) | (simp_all; omega))) fun _ => ?_; (try simp ))
              exact hq (p + 1) _ (by omega) (by omega) (by simp [hss])
        · have h1' : ¬ (p : Int) < wid t := by omega
          have hpe : p = wid t := by omega
          subst hpe
          try simp [hpos, hwd, h1, h1']
          repeat (refine PreK.intro (by first | omega | (intros; first | omega | (refine ⟨by omega, ?_⟩; simp_all; done) | (simp_all; done) | (simp_all; omega))) fun _ => ?_; (try simp [hpos, hwd, h1, h1']))
          refine CondK.ff ?_
          try simp 
          apply he
          try simp [hgi, hgs2]
          repeat (refine PreK.intro (by first | omega | (intros; first | omega | (refine ⟨by omega, ?_⟩; simp_all; done) | (simp_all; done) | (simp_all; omega))) fun _ => ?_; (try simp [hgi, hgs2]))
          refine CondK.ff ?_
          try simp 
          try simp [hpos, hwd]
          repeat (refine PreK.intro (by first | omega | (intros; first | omega | (refine ⟨by omega, ?_⟩; simp_all; done) | (simp_all; done) | (simp_all; omega))) fun _ => ?_; (try simp [hpos, hwd]))
          refine LoopK.by (ι := Nat × List (List Int)) (fun x => ⟨[(30, iv ((x.1 : Int) - 1)), (29, rdsV x.2), (0, rdsV t), (3, .pt 3 1 0 0), (12, ints (greatM t))], [(3, some ⟨2, [treeV par ats], 1, true⟩)]⟩) (fun x => x.1)
            (fun x => x.1 ≤ wid t ∧ LessOK t (greatM t) x.1 x.2) (wid t, t) ⟨Nat.le_refl _, LessOK.start hrd _⟩ (by simp) ?_
          intro ⟨k, l⟩ Q2 ⟨hk, hlo⟩ hq2 he2 hr2
          dsimp only at hk hlo
          cases k with
          | succ p =>
            have hpl : p < wid l := by have := hlo.wd; omega
            have hst := hlo.step
            have hl1 := hlo.len
            have hlr := hlo.rds
            have hlpos : 0 < l.length := by omega
            have hlw : (el l 0).length = wid l := rfl
            have hlw6 := hlr.w6
            have hp1 : ((p + 1 : Nat) : Int) - 1 = (p : Int) := by omega
            have hp0 : (0 : Int) ≤ (p : Int) := by omega
            rw [hp1]
            have hgl2 : (greatM t).length ≤ 6 := by omega
            try simp [hp0]
            repeat (refine PreK.intro (by first | omega | (intros; first | omega | (refine ⟨by omega, ?_⟩; simp_all; done) | (simp_all; done) | (simp_all; omega))) fun _ => ?_; (try simp [hp0]))
            refine CondK.tt ?_
            try simp 
            try simp 
            repeat (refine PreK.intro (by first | omega | (intros; first | omega | (refine ⟨by omega, ?_⟩; simp_all; done) | (simp_all; done) | (simp_all; omega))) fun _ => ?_; (try simp ))
            refine LoopK.by (ι := Nat) (fun i => ⟨[(32, iv i), (31, bv (decide ((p : Int) ∈ (greatM t).take i))), (30, iv (p : Int)), (29, rdsV l), (0, rdsV t), (3, .pt 3 1 0 0), (12, ints (greatM t))], [(3, some ⟨2, [treeV par ats], 1, true⟩)]⟩) (fun i => (greatM t).length - i) (fun i => i ≤ (greatM t).length) 0 (Nat.zero_le _) (by simp) ?_
            intro i Q3 hi hq3 he3 hr3
            try simp 
            refine CondK.intro (fun h5 => ?_) (fun h5 => ?_)
            · simp at h5
              have hms := mem_take_succ (greatM t) i h5 (p : Int)
              cases hd : decide ((p : Int) ∈ (greatM t).take i) with
              | true =>
                rw [hd] at hms
                simp only [Bool.true_or] at hms
                try simp [h5]
                repeat (refine PreK.intro (by first | omega | (intros; first | omega | (refine ⟨by omega, ?_⟩; simp_all; done) | (simp_all; done) | (simp_all; omega))) fun _ => ?_; (try simp [h5]))
                refine hq3 (i + 1) _ (by omega) (by omega) ?_
                rw [hms]
                simp
              | false =>
                rw [hd] at hms
                simp only [Bool.false_or] at hms
                try simp [h5]
                repeat (refine PreK.intro (by first | omega | (intros; first | omega | (refine ⟨by omega, ?_⟩; simp_all; done) | (simp_all; done) | (simp_all; omega))) fun _ => ?_; (try simp [h5]))
                refine hq3 (i + 1) _ (by omega) (by omega) ?_
                rw [hms]
                simp
            · simp at h5
              have hil : i = (greatM t).length := by omega
              subst hil
              rw [List.take_length]
              try simp 
              apply he3
              by_cases hk1 : (p : Int) ∈ greatM t
              · rw [if_pos (.inl hk1)] at hst
                try simp [hk1, hlpos, hlw]
                repeat (refine PreK.intro (by first | omega | (intros; first | omega | (refine ⟨by omega, ?_⟩; simp_all; done) | (simp_all; done) | (simp_all; omega))) fun _ => ?_; (try simp [hk1, hlpos, hlw]))
                refine CondK.tt ?_
                try simp 
                try simp 
                repeat (refine PreK.intro (by first | omega | (intros; first | omega | (refine ⟨by omega, ?_⟩; simp_all; done) | (simp_all; done) | (simp_all; omega))) fun _ => ?_; (try simp ))
                exact hq2 (p, l) _ ⟨by dsimp only; omega, hst⟩ (by dsimp only; omega) (by simp)
              · by_cases hk2 : wid l = 1
                · have hk2' : ((wid l : Nat) : Int) = 1 := by omega
                  rw [if_pos (.inr hk2)] at hst
                  try simp [hk1, hlpos, hlw, hk2, hk2']
                  repeat (refine PreK.intro (by first | omega | (intros; first | omega | (refine ⟨by omega, ?_⟩; simp_all; done) | (simp_all; done) | (simp_all; omega))) fun _ => ?_; (try simp [hk1, hlpos, hlw, hk2, hk2']))
                  refine CondK.tt ?_
                  try simp 
                  try simp 
                  repeat (refine PreK.intro (by first | omega | (intros; first | omega | (refine ⟨by omega, ?_⟩; simp_all; done) | (simp_all; done) | (simp_all; omega))) fun _ => ?_; (try simp ))
                  exact hq2 (p, l) _ ⟨by dsimp only; omega, hst⟩ (by dsimp only; omega) (by simp)
                · have hk2' : ¬ ((wid l : Nat) : Int) = 1 := by omega
                  rw [if_neg (by intro h; rcases h with h | h; exact hk1 h; exact hk2 h)] at hst
                  have w1 := Without_c l p (Rds.sm hlr)
                  rw [without_is hlr hpl hk2] at w1
                  dsimp only at w1
                  have hlm : (lessM l p).length = t.length := by rw [less_len]; exact hl1
                  have hlm' : (((lessM l p).length : Nat) : Int) = t.length := by omega
                  try simp [hk1, hlpos, hlw, hk2, hk2']
                  repeat (refine PreK.intro (by first | omega | (intros; first | omega | (refine ⟨by omega, ?_⟩; simp_all; done) | (simp_all; done) | (simp_all; omega))) fun _ => ?_; (try simp [hk1, hlpos, hlw, hk2, hk2']))
                  refine CondK.ff ?_
                  try simp 
                  try simp 
                  repeat (refine PreK.intro (by first | omega | (intros; first | omega | (refine ⟨by omega, ?_⟩; simp_all; done) | (simp_all; done) | (simp_all; omega))) fun _ => ?_; (try simp ))
                  try simp 
                  repeat' (first
                    | (refine CallX.pure (w1) (by simp) (by simp) ?_; try simp )
                    | (refine CallK.intro (w1) (by simp) (by simp) ?_; try simp )
                    | (refine CallG.intro (fun _ => w1) (by simp) (by simp) ?_; try simp )
                    | ((with_reducible refine PreK.intro ?_ ?_); (next => (first | omega | (intros; first | omega | (refine ⟨by omega, ?_⟩; repeat (first | assumption | constructor)) | assumption))); intro _; try simp )
                    | fail)
                  try simp [hlm, hlm']
                  repeat (refine PreK.intro (by first | omega | (intros; first | omega | (refine ⟨by omega, ?_⟩; simp_all; done) | (simp_all; done) | (simp_all; omega))) fun _ => ?_; (try simp [hlm, hlm']))
                  refine CondK.ff ?_
                  try simp 
                  try simp 
                  repeat (refine PreK.intro (by first | omega | (intros; first | omega | (refine ⟨by omega, ?_⟩; simp_all; done) | (simp_all; done) | (simp_all; omega))) fun _ => ?_; (try simp ))
                  exact hq2 (p, lessM l p) _ ⟨by dsimp only; omega, hst⟩ (by dsimp only; omega) (by simp)
          | zero =>
            have hlr := hlo.rds
            have hcalm := less_calm hlo (fun q r h6 h7 h8 => great_calm h6 h7 h8)
            have k1 := CanTree_c l (Rds.sm hlr)
            rw [can_is hlr, hcalm] at k1
            have k2 := Total_c t par ats hs hp ha
            obtain ⟨t1, t2⟩ := @tot_is t par ats
            generalize TotR t par ats = G at k2 t1 t2
            obtain ⟨G1, G2, G3⟩ := G
            dsimp only at k1 k2 t1 t2
            try simp 
            repeat (refine PreK.intro (by first | omega | (intros; first | omega | (refine ⟨by omega, ?_⟩; simp_all; done) | (simp_all; done) | (simp_all; omega))) fun _ => ?_; (try simp ))
            refine CondK.ff ?_
            try simp 
            apply he2
            try simp 
            repeat' (first
              | (refine CallX.pure (k1) (by simp) (by simp) ?_; try simp )
              | (refine CallK.intro (k1) (by simp) (by simp) ?_; try simp )
              | (refine CallG.intro (fun _ => k1) (by simp) (by simp) ?_; try simp )
              | ((with_reducible refine PreK.intro ?_ ?_); (next => (first | omega | (intros; first | omega | (refine ⟨by omega, ?_⟩; repeat (first | assumption | constructor)) | assumption))); intro _; try simp )
              | fail)
            try simp 
            repeat (refine PreK.intro (by first | omega | (intros; first | omega | (refine ⟨by omega, ?_⟩; simp_all; done) | (simp_all; done) | (simp_all; omega))) fun _ => ?_; (try simp ))
            refine CondK.ff ?_
            try simp 
            try simp 
            repeat (refine PreK.intro (by first | omega | (intros; first | omega | (refine ⟨by omega, ?_⟩; simp_all; done) | (simp_all; done) | (simp_all; omega))) fun _ => ?_; (try simp ))
            try simp 
            repeat' (first
              | (refine CallX.pure (k2) (by simp) (by simp) ?_; try simp )
              | (refine CallK.intro (k2) (by simp) (by simp) ?_; try simp )
              | (refine CallG.intro (fun _ => k2) (by simp) (by simp) ?_; try simp )
              | ((with_reducible refine PreK.intro ?_ ?_); (next => (first | omega | (intros; first | omega | (refine ⟨by omega, ?_⟩; repeat (first | assumption | constructor)) | assumption))); intro _; try simp )
              | fail)
            by_cases hg : G3 = 0 ∧ G2 = true
            · have t3 := t2 hg
              obtain ⟨rfl, rfl⟩ := hg
              try simp 
              repeat (refine PreK.intro (by first | omega | (intros; first | omega | (refine ⟨by omega, ?_⟩; simp_all; done) | (simp_all; done) | (simp_all; omega))) fun _ => ?_; (try simp ))
              refine CondK.ff ?_
              try simp 
              try simp 
              repeat (refine PreK.intro (by first | omega | (intros; first | omega | (refine ⟨by omega, ?_⟩; simp_all; done) | (simp_all; done) | (simp_all; omega))) fun _ => ?_; (try simp ))
              refine LoopK.by (ι := Nat × Int) (fun x => ⟨[(36, iv x.1), (35, iv x.2), (34, iv G1), (0, rdsV t)], []⟩) (fun x => wid t - x.1)
                (fun x => x.1 ≤ wid t ∧ x.2 + diffs t x.1 (wid t - x.1) = diffs t 0 (wid t) ∧ -(x.1 : Int) ≤ x.2 ∧ x.2 ≤ 6 * (x.1 : Int)) (0, 0) ⟨Nat.zero_le _, by simp, by simp, by simp⟩ (by simp) ?_
              intro ⟨p, s⟩ Q3 ⟨hp3, hsum, hb1, hb2⟩ hq3 he3 hr3
              dsimp only at hp3 hsum hb1 hb2
              by_cases h1 : p < wid t
              · have h1' : (p : Int) < wid t := by omega
                have d1 := Different_c t p hs
                rw [diff_is hrd h1] at d1
                dsimp only at d1
                have d2 := diff_bnd hrd p
                rw [diffs_step t p (wid t) h1] at hsum
                try simp [hpos, hwd, h1, h1']
                repeat (refine PreK.intro (by first | omega | (intros; first | omega | (refine ⟨by omega, ?_⟩; simp_all; done) | (simp_all; done) | (simp_all; omega))) fun _ => ?_; (try simp [hpos, hwd, h1, h1']))
                refine CondK.tt ?_
                try simp 
                try simp 
                repeat' (first
                  | (refine CallX.pure (d1) (by simp) (by simp) ?_; try simp )
                  | (refine CallK.intro (d1) (by simp) (by simp) ?_; try simp )
                  | (refine CallG.intro (fun _ => d1) (by simp) (by simp) ?_; try simp )
                  | ((with_reducible refine PreK.intro ?_ ?_); (next => (first | omega | (intros; first | omega | (refine ⟨by omega, ?_⟩; repeat (first | assumption | constructor)) | assumption))); intro _; try simp )
                  | fail)
                refine CondK.ff ?_
                try simp 
                try simp 
                repeat (refine PreK.intro (by first | omega | (intros; first | omega | (refine ⟨by omega, ?_⟩; simp_all; done) | (simp_all; done) | (simp_all; omega))) fun _ => ?_; (try simp ))
                exact hq3 (p + 1, s + (((diffN (colM t p) : Nat) : Int) - 1)) _ ⟨by dsimp only; omega, by dsimp only; omega, by dsimp only; omega, by dsimp only; omega⟩ (by dsimp only; omega) (by simp)
              · have h1' : ¬ (p : Int) < wid t := by omega
                have hpe : p = wid t := by omega
                subst hpe
                rw [Nat.sub_self, diffs] at hsum
                have hfin : s ≤ G1 := by omega
                try simp [hpos, hwd, h1, h1']
                repeat (refine PreK.intro (by first | omega | (intros; first | omega | (refine ⟨by omega, ?_⟩; simp_all; done) | (simp_all; done) | (simp_all; omega))) fun _ => ?_; (try simp [hpos, hwd, h1, h1']))
                refine CondK.ff ?_
                try simp 
                apply he3
                try simp [hfin]
                repeat (refine PreK.intro (by first | omega | (intros; first | omega | (refine ⟨by omega, ?_⟩; simp_all; done) | (simp_all; done) | (simp_all; omega))) fun _ => ?_; (try simp [hfin]))
            · have hz : G1 = 0 := t1 (by
                by_cases h3 : G3 = 0
                · right
                  cases G2 with
                  | false => rfl
                  | true => exact absurd ⟨h3, rfl⟩ hg
                · exact .inl h3)
              have hc : (!decide (G3 = 0) || !G2) = true := by
                by_cases h3 : G3 = 0
                · cases G2 with
                  | false => simp
                  | true => exact absurd ⟨h3, rfl⟩ hg
                · simp [h3]
              subst hz
              rw [hc]
              refine CondK.tt ?_
              try simp 
              try simp 
              repeat (refine PreK.intro (by first | omega | (intros; first | omega | (refine ⟨by omega, ?_⟩; simp_all; done) | (simp_all; done) | (simp_all; omega))) fun _ => ?_; (try simp ))
      · have ec : CanR t = (false, vErr t) := by unfold CanR; rw [if_pos hv]
        rw [ec] at c1
        dsimp only at c1
        try simp 
        repeat' (first
          | (refine CallX.pure (c1) (by simp) (by simp) ?_; try simp )
          | (refine CallK.intro (c1) (by simp) (by simp) ?_; try simp )
          | (refine CallG.intro (fun _ => c1) (by simp) (by simp) ?_; try simp )
          | ((with_reducible refine PreK.intro ?_ ?_); (next => (first | omega | (intros; first | omega | (refine ⟨by omega, ?_⟩; repeat (first | assumption | constructor)) | assumption))); intro _; try simp )
          | fail)
        try simp [hv]
        repeat (refine PreK.intro (by first | omega | (intros; first | omega | (refine ⟨by omega, ?_⟩; simp_all; done) | (simp_all; done) | (simp_all; omega))) fun _ => ?_; (try simp [hv]))
        refine CondK.tt ?_
        try simp 
        try simp 
        repeat' (first
          | (refine CallX.pure ((Validate_c t hs)) (by simp) (by simp) ?_; try simp )
          | (refine CallK.intro ((Validate_c t hs)) (by simp) (by simp) ?_; try simp )
          | (refine CallG.intro (fun _ => (Validate_c t hs)) (by simp) (by simp) ?_; try simp )
          | ((with_reducible refine PreK.intro ?_ ?_); (next => (first | omega | (intros; first | omega | (refine ⟨by omega, ?_⟩; repeat (first | assumption | constructor)) | assumption))); intro _; try simp )
          | fail)
end Go.Proofs.Ytnpkaemlidifgaa
end
