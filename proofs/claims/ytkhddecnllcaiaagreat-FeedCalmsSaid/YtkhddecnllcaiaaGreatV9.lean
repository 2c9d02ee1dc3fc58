/- Part 9 of the proof: the value layer and the contracts of the functions that the statement reaches; proved without conditions beyond those each theorem states. -/
import Derived.Test.YtkhddecnllcaiaaGreatV6
import Derived.Test.YtkhddecnllcaiaaGreatV7
import Derived.Test.YtkhddecnllcaiaaGreatV8
set_option linter.unusedSimpArgs false
set_option linter.unusedVariables false

section
/- Functions of the cut as the value layer reads them. (written by gen.py) -/
set_option maxRecDepth 20000
namespace Go.Proofs.YtkhddecnllcaiaaGreat
open Go.Abs Go

def A106 : ACode :=
  (.seq (.reg [] [⟨some 4, (.assign (.const (.int .u64 0))), 114, none⟩,
      ⟨some 5, (.assign (.const (.int .u64 0))), 114, none⟩])
    (.seq (.cond (.const (.bool false))
    (.seq (.reg [] [⟨some 11, (.move (.tmp 0)), 114, none⟩,
      ⟨some 12, (.convert 114 145 (.tmp 11)), 145, none⟩,
      ⟨some 13, (.move (.tmp 1)), 114, none⟩,
      ⟨some 14, (.convert 114 145 (.tmp 13)), 145, none⟩,
      ⟨some 15, (.call ⟨(.value (.func 151)), #[(.tmp 12), (.tmp 14)], #[145, 145]⟩), 164, none⟩,
      ⟨some 10, (.move (.tmp 15)), 164, none⟩,
      ⟨some 16, (.extract (.tmp 10) 0), 145, none⟩,
      ⟨some 17, (.extract (.tmp 10) 1), 145, none⟩,
      ⟨some 6, (.assign (.tmp 16)), 145, none⟩,
      ⟨some 7, (.assign (.tmp 17)), 145, none⟩])
    (.seq (.reg [] [⟨some 18, (.move (.tmp 6)), 145, none⟩,
      ⟨some 19, (.convert 145 114 (.tmp 18)), 114, none⟩,
      ⟨some 20, (.move (.tmp 7)), 145, none⟩,
      ⟨some 21, (.convert 145 114 (.tmp 20)), 114, none⟩,
      ⟨some 4, (.assign (.tmp 19)), 114, none⟩,
      ⟨some 5, (.assign (.tmp 21)), 114, none⟩])
    .ret))
    .skip)
    (.seq (.reg [] [⟨some 23, (.move (.tmp 0)), 114, none⟩,
      ⟨some 24, (.move (.tmp 1)), 114, none⟩,
      ⟨some 25, (.call ⟨(.value (.func 152)), #[(.tmp 23), (.tmp 24)], #[147, 147]⟩), 166, none⟩,
      ⟨some 22, (.move (.tmp 25)), 166, none⟩,
      ⟨some 26, (.extract (.tmp 22) 0), 147, none⟩,
      ⟨some 27, (.extract (.tmp 22) 1), 147, none⟩,
      ⟨some 8, (.assign (.tmp 26)), 147, none⟩,
      ⟨some 9, (.assign (.tmp 27)), 147, none⟩])
    (.seq (.reg [] [⟨some 28, (.move (.tmp 8)), 147, none⟩,
      ⟨some 29, (.move (.tmp 9)), 147, none⟩,
      ⟨some 4, (.assign (.tmp 28)), 114, none⟩,
      ⟨some 5, (.assign (.tmp 29)), 114, none⟩])
    .ret))))
theorem C106 {args : List AV} {r : AV} (hn : args.length ≤ 30) (h : vc Tryz.prog T [] A106 (Fin T [(.tmp 4), (.tmp 5)] r) ⟨envOf 0 args, []⟩) : CallP Tryz.prog 106 args r :=
  callP_of tok mixed Tryz.func106 (by kernel_rfl) (by kernel_rfl) (by kernel_rfl : Tryz.f106.ntmps = 30) (by kernel_rfl : Tryz.f106.body.bind (strip 30 (fun _ => [])) = some A106) hn h
def A152 : ACode :=
  (.seq (.reg [] [⟨some 4, (.assign (.const (.int .u64 0))), 147, none⟩,
      ⟨some 5, (.assign (.const (.int .u64 0))), 147, none⟩])
    (.seq (.reg [] [⟨some 14, (.move (.tmp 0)), 147, none⟩,
      ⟨some 15, (.binOp .and 147 (.tmp 14) (.const (.int .u64 4294967295)) 147), 147, none⟩,
      ⟨some 6, (.assign (.tmp 15)), 147, none⟩])
    (.seq (.reg [] [⟨some 16, (.move (.tmp 0)), 147, none⟩,
      ⟨some 17, (.binOp .shr 147 (.tmp 16) (.const (.int .u64 32)) 114), 147, none⟩,
      ⟨some 7, (.assign (.tmp 17)), 147, none⟩])
    (.seq (.reg [] [⟨some 18, (.move (.tmp 1)), 147, none⟩,
      ⟨some 19, (.binOp .and 147 (.tmp 18) (.const (.int .u64 4294967295)) 147), 147, none⟩,
      ⟨some 8, (.assign (.tmp 19)), 147, none⟩])
    (.seq (.reg [] [⟨some 20, (.move (.tmp 1)), 147, none⟩,
      ⟨some 21, (.binOp .shr 147 (.tmp 20) (.const (.int .u64 32)) 114), 147, none⟩,
      ⟨some 9, (.assign (.tmp 21)), 147, none⟩])
    (.seq (.reg [] [⟨some 22, (.move (.tmp 6)), 147, none⟩,
      ⟨some 23, (.move (.tmp 8)), 147, none⟩,
      ⟨some 24, (.binOp .mul 147 (.tmp 22) (.tmp 23) 147), 147, none⟩,
      ⟨some 10, (.assign (.tmp 24)), 147, none⟩])
    (.seq (.reg [] [⟨some 25, (.move (.tmp 7)), 147, none⟩,
      ⟨some 26, (.move (.tmp 8)), 147, none⟩,
      ⟨some 27, (.binOp .mul 147 (.tmp 25) (.tmp 26) 147), 147, none⟩,
      ⟨some 28, (.move (.tmp 10)), 147, none⟩,
      ⟨some 29, (.binOp .shr 147 (.tmp 28) (.const (.int .u64 32)) 114), 147, none⟩,
      ⟨some 30, (.binOp .add 147 (.tmp 27) (.tmp 29) 147), 147, none⟩,
      ⟨some 11, (.assign (.tmp 30)), 147, none⟩])
    (.seq (.reg [] [⟨some 31, (.move (.tmp 11)), 147, none⟩,
      ⟨some 32, (.binOp .and 147 (.tmp 31) (.const (.int .u64 4294967295)) 147), 147, none⟩,
      ⟨some 12, (.assign (.tmp 32)), 147, none⟩])
    (.seq (.reg [] [⟨some 33, (.move (.tmp 11)), 147, none⟩,
      ⟨some 34, (.binOp .shr 147 (.tmp 33) (.const (.int .u64 32)) 114), 147, none⟩,
      ⟨some 13, (.assign (.tmp 34)), 147, none⟩])
    (.seq (.reg [] [⟨some 35, (.move (.tmp 12)), 147, none⟩,
      ⟨some 36, (.move (.tmp 6)), 147, none⟩,
      ⟨some 37, (.move (.tmp 9)), 147, none⟩,
      ⟨some 38, (.binOp .mul 147 (.tmp 36) (.tmp 37) 147), 147, none⟩,
      ⟨some 39, (.binOp .add 147 (.tmp 35) (.tmp 38) 147), 147, none⟩,
      ⟨some 12, (.assign (.tmp 39)), 147, none⟩])
    (.seq (.reg [] [⟨some 40, (.move (.tmp 7)), 147, none⟩,
      ⟨some 41, (.move (.tmp 9)), 147, none⟩,
      ⟨some 42, (.binOp .mul 147 (.tmp 40) (.tmp 41) 147), 147, none⟩,
      ⟨some 43, (.move (.tmp 13)), 147, none⟩,
      ⟨some 44, (.binOp .add 147 (.tmp 42) (.tmp 43) 147), 147, none⟩,
      ⟨some 45, (.move (.tmp 12)), 147, none⟩,
      ⟨some 46, (.binOp .shr 147 (.tmp 45) (.const (.int .u64 32)) 114), 147, none⟩,
      ⟨some 47, (.binOp .add 147 (.tmp 44) (.tmp 46) 147), 147, none⟩,
      ⟨some 4, (.assign (.tmp 47)), 147, none⟩])
    (.seq (.reg [] [⟨some 48, (.move (.tmp 0)), 147, none⟩,
      ⟨some 49, (.move (.tmp 1)), 147, none⟩,
      ⟨some 50, (.binOp .mul 147 (.tmp 48) (.tmp 49) 147), 147, none⟩,
      ⟨some 5, (.assign (.tmp 50)), 147, none⟩])
    .ret))))))))))))
theorem C152 {args : List AV} {r : AV} (hn : args.length ≤ 51) (h : vc Tryz.prog T [] A152 (Fin T [(.tmp 4), (.tmp 5)] r) ⟨envOf 0 args, []⟩) : CallP Tryz.prog 152 args r :=
  callP_of tok mixed Tryz.func152 (by kernel_rfl) (by kernel_rfl) (by kernel_rfl : Tryz.f152.ntmps = 51) (by kernel_rfl : Tryz.f152.body.bind (strip 51 (fun _ => [])) = some A152) hn h
def A41 : ACode :=
  (.seq (.reg [] [⟨some 1, (.box 48 (.tmp 0)), 0, none⟩,
      ⟨some 2, (.assign (.const (.int .i64 0))), 3, none⟩,
      ⟨some 3, (.assign (.const (.bool false))), 4, none⟩])
    (.seq (.reg [] [⟨some 8, (.buildSlice 23 1 #[(0, (.const (.int .i64 (-2))))]), 23, none⟩,
      ⟨some 9, (.load 48 (.tmp 1)), 48, none⟩,
      ⟨some 10, (.nilCheck (.tmp 9)), 0, none⟩,
      ⟨some 11, (.fieldAddr 60 (.tmp 10) 1), 0, none⟩,
      ⟨some 12, (.load 27 (.tmp 11)), 27, none⟩,
      ⟨some 13, (.call ⟨(.builtin .len), #[(.tmp 12)], #[27]⟩), 3, none⟩,
      ⟨some 14, (.call ⟨(.value (.func 80)), #[(.tmp 8), (.tmp 13)], #[23, 3]⟩), 23, none⟩,
      ⟨some 4, (.alloc 23), 0, none⟩,
      ⟨none, (.store 23 (.tmp 4) (.tmp 14)), 0, none⟩])
    (.seq (.reg [] [⟨some 5, (.alloc 4), 0, none⟩,
      ⟨none, (.store 4 (.tmp 5) (.const (.bool false))), 0, none⟩])
    (.seq (.reg [] [⟨some 6, (.alloc 101), 0, none⟩])
    (.seq (.reg [] [⟨some 15, (.makeFunc (.func 81) #[] #[(.tmp 4), (.tmp 5), (.tmp 1), (.tmp 6)]), 101, none⟩,
      ⟨none, (.store 101 (.tmp 6) (.tmp 15)), 0, none⟩])
    (.seq (.reg [] [⟨some 16, (.load 101 (.tmp 6)), 101, none⟩,
      ⟨some 17, (.call ⟨(.value (.tmp 16)), #[(.const (.int .i64 0))], #[3]⟩), 3, none⟩,
      ⟨some 7, (.assign (.tmp 17)), 3, none⟩])
    (.seq (.seq (.reg [] [⟨some 18, (.load 4 (.tmp 5)), 4, none⟩])
    (.cond (.tmp 18)
    (.seq (.reg [] [⟨some 2, (.assign (.const (.int .i64 0))), 3, none⟩,
      ⟨some 3, (.assign (.const (.bool false))), 4, none⟩])
    .ret)
    .skip))
    (.seq (.reg [] [⟨some 19, (.move (.tmp 7)), 3, none⟩,
      ⟨some 2, (.assign (.tmp 19)), 3, none⟩,
      ⟨some 3, (.assign (.const (.bool true))), 4, none⟩])
    .ret))))))))
theorem C41 {args : List AV} {r : AV} (hn : args.length ≤ 20) (h : vc Tryz.prog T [] A41 (Fin T [(.tmp 2), (.tmp 3)] r) ⟨envOf 0 args, []⟩) : CallP Tryz.prog 41 args r :=
  callP_of tok mixed Tryz.func41 (by kernel_rfl) (by kernel_rfl) (by kernel_rfl : Tryz.f41.ntmps = 20) (by kernel_rfl : Tryz.f41.body.bind (strip 20 (fun _ => [])) = some A41) hn h

end Go.Proofs.YtkhddecnllcaiaaGreat
end

section
/- Plain: the longest walk, found by going deep. -/
namespace Go.Proofs.YtkhddecnllcaiaaGreat
open Go.Abs Go

variable {nx : Word → List Word}
/-- How far the search is: of each word the greatest number of steps, -2 before it is asked, -1 while it is; and whether a circle was met. -/
abbrev DS := List Int × Bool
def eachM (f : Nat → DS → DS × Int) : List Nat → DS → Int → DS × Int
  | [], s, m => (s, m)
  | j :: l, s, m => eachM f l (f j s).1 (max m ((f j s).2 + 1))
def downM (sc : Nat → List Nat) : Nat → Nat → DS → DS × Int
  | 0, _, s => (s, 0)
  | n + 1, i, s =>
    if el s.1 i = -1 then ((s.1, true), 0)
    else if el s.1 i ≠ -2 then (s, el s.1 i)
    else (((eachM (downM sc n) (sc i) (s.1.set i (-1), s.2) 0).1.1.set i (eachM (downM sc n) (sc i) (s.1.set i (-1), s.2) 0).2, (eachM (downM sc n) (sc i) (s.1.set i (-1), s.2) 0).1.2),
      (eachM (downM sc n) (sc i) (s.1.set i (-1), s.2) 0).2)
structure ScOK (nx : Word → List Word) (ws : List Word) (sc : Nat → List Nat) : Prop where
  lt : ∀ i, i < ws.length → ∀ j ∈ sc i, j < ws.length ∧ el ws j ∈ nx (el ws i)
  all : ∀ i, i < ws.length → ∀ x ∈ nx (el ws i), ∃ j ∈ sc i, el ws j = x
/-- How many have not been asked; how many are done. -/
def cntU (f : List Int) : Nat := f.countP fun x => decide (x = -2)
def cntC (f : List Int) : Nat := f.countP fun x => decide (0 ≤ x)
theorem countP_set {p : Int → Bool} : ∀ (l : List Int) (i : Nat) (v : Int), i < l.length → (l.set i v).countP p + (if p (el l i) then 1 else 0) = l.countP p + (if p v then 1 else 0)
  | [], i, v, h => by simp at h
  | x :: l, 0, v, _ => by
    simp only [List.set_cons_zero, List.countP_cons, el, List.getD_cons_zero]
    omega
  | x :: l, i + 1, v, h => by
    have ih := countP_set (p := p) l i v (by simpa using h)
    have e : el (x :: l) (i + 1) = el l i := by simp [el]
    rw [e]
    simp only [List.set_cons_succ, List.countP_cons]
    omega
/-- What is done is right. -/
def FineD (sc : Nat → List Nat) (f : List Int) : Prop := ∀ i, i < f.length → 0 ≤ el f i →
  (∀ j ∈ sc i, 0 ≤ el f j ∧ el f j + 1 ≤ el f i) ∧ (el f i = 0 ∨ ∃ j ∈ sc i, el f j + 1 = el f i)
/-- A circle. -/
def Cyc (nx : Word → List Word) (ws : List Word) : Prop := ∃ x ∈ ws, ∃ n, 1 ≤ n ∧ ReachN nx x n x
structure DOK (N : Nat) (f : List Int) : Prop where
  len : f.length = N
  low : ∀ k, k < N → -2 ≤ el f k
  top : ∀ k, k < N → el f k ≤ (cntC f : Int)
structure DStep (sc : Nat → List Nat) (N : Nat) (C : Prop) (f : List Int) (e : Bool) (f' : List Int) (e' : Bool) : Prop where
  ok : DOK N f'
  keep : ∀ k, k < N → el f k ≠ -2 → el f' k = el f k
  new : ∀ k, k < N → el f k = -2 → el f' k = -2 ∨ 0 ≤ el f' k
  cnt : cntU f' ≤ cntU f
  cyc : e' = true → e = true ∨ C
  fine : e' = false → e = false ∧ (FineD sc f → FineD sc f')
theorem DStep.trans {sc : Nat → List Nat} {N : Nat} {C : Prop} {f f' f'' : List Int} {e e' e'' : Bool} (h : DStep sc N C f e f' e') (k : DStep sc N C f' e' f'' e'') : DStep sc N C f e f'' e'' := by
  refine ⟨k.ok, fun i hi hn => ?_, fun i hi hn => ?_, Nat.le_trans k.cnt h.cnt, fun he => ?_, fun he => ?_⟩
  · have := h.keep i hi hn
    rw [k.keep i hi (by rw [this]; exact hn), this]
  · rcases h.new i hi hn with e | e
    · exact k.new i hi e
    · have := k.keep i hi (by omega)
      right; omega
  · rcases k.cyc he with e | e
    · exact h.cyc e
    · exact .inr e
  · obtain ⟨h1, h2⟩ := k.fine he
    obtain ⟨h3, h4⟩ := h.fine h1
    exact ⟨h3, fun hf => h2 (h4 hf)⟩
theorem DStep.refl {sc : Nat → List Nat} {N : Nat} {C : Prop} {f : List Int} {e : Bool} (h : DOK N f) : DStep sc N C f e f e :=
  ⟨h, fun _ _ _ => rfl, fun _ _ h => .inl h, Nat.le_refl _, fun h => .inl h, fun h => ⟨h, fun k => k⟩⟩
theorem cntC_le (f : List Int) : cntC f ≤ f.length := List.countP_le_length
theorem cntC_grow : ∀ {f f' : List Int}, f.length = f'.length → (∀ k, k < f.length → 0 ≤ el f k → 0 ≤ el f' k) → cntC f ≤ cntC f'
  | [], [], _, _ => Nat.le_refl _
  | [], _ :: _, h, _ => by simp at h
  | _ :: _, [], h, _ => by simp at h
  | x :: f, y :: f', h, hk => by
    have h0 := hk 0 (by simp)
    have ih := cntC_grow (f := f) (f' := f') (by simpa using h) fun k hk2 hx => by
      have := hk (k + 1) (by simpa using hk2) (by simpa [el] using hx)
      simpa [el] using this
    simp only [el, List.getD_cons_zero] at h0
    unfold cntC at *
    simp only [List.countP_cons]
    by_cases hx : 0 ≤ x
    · have := h0 hx
      simp [hx, this]; exact ih
    · simp [hx]; omega
theorem each_spec {ws : List Word} {sc : Nat → List Nat} {C : Prop} {d : Nat → DS → DS × Int} {i : Nat} {n : Nat}
    (hd : ∀ j ∈ sc i, ∀ (f : List Int) (e : Bool), DOK ws.length f → cntU f < n → (∀ k, k < ws.length → el f k = -1 → ∃ m, 1 ≤ m ∧ ReachN nx (el ws k) m (el ws j)) →
      DStep sc ws.length C f e (d j (f, e)).1.1 (d j (f, e)).1.2 ∧ 0 ≤ (d j (f, e)).2 ∧ (d j (f, e)).2 ≤ (cntC (d j (f, e)).1.1 : Int) ∧
      ((d j (f, e)).1.2 = false → FineD sc f → (d j (f, e)).2 = el (d j (f, e)).1.1 j ∧ 0 ≤ el (d j (f, e)).1.1 j)) :
    ∀ (l : List Nat) (f : List Int) (e : Bool) (m : Int), (∀ j ∈ l, j ∈ sc i ∧ j < ws.length) → DOK ws.length f → cntU f < n → 0 ≤ m → m ≤ (cntC f : Int) + 1 →
      (∀ j ∈ l, ∀ k, k < ws.length → el f k = -1 → ∃ m, 1 ≤ m ∧ ReachN nx (el ws k) m (el ws j)) →
      DStep sc ws.length C f e (eachM d l (f, e) m).1.1 (eachM d l (f, e) m).1.2 ∧ m ≤ (eachM d l (f, e) m).2 ∧ (eachM d l (f, e) m).2 ≤ (cntC (eachM d l (f, e) m).1.1 : Int) + 1 ∧
      ((eachM d l (f, e) m).1.2 = false → FineD sc f →
        (∀ j ∈ l, 0 ≤ el (eachM d l (f, e) m).1.1 j ∧ el (eachM d l (f, e) m).1.1 j + 1 ≤ (eachM d l (f, e) m).2) ∧
        ((eachM d l (f, e) m).2 = m ∨ ∃ j ∈ l, el (eachM d l (f, e) m).1.1 j + 1 = (eachM d l (f, e) m).2))
  | [], f, e, m, _, hf, _, _, hm, _ => by
    simp only [eachM]
    exact ⟨DStep.refl hf, Int.le_refl _, hm, fun _ _ => by simp⟩
  | j :: l, f, e, m, hl, hf, hn, h0, hm, hop => by
    obtain ⟨hj, hjl⟩ := hl j (by simp)
    obtain ⟨a1, a2, a3, a4⟩ := hd j hj f e hf hn (hop j (by simp))
    rw [eachM]
    generalize hq : d j (f, e) = q at *
    obtain ⟨⟨f', e'⟩, v⟩ := q
    dsimp only at *
    have hcc : cntC f ≤ cntC f' := cntC_grow (by rw [hf.len, a1.ok.len]) fun k hk hx => by
      rw [hf.len] at hk
      have := a1.keep k hk (by omega)
      omega
    have ih := each_spec hd l f' e' (max m (v + 1)) (fun x hx => hl x (by simp [hx])) a1.ok (by have := a1.cnt; omega) (by omega) (by omega) (fun x hx k hk hk1 => by
      refine hop x (by simp [hx]) k hk ?_
      by_cases h2 : el f k = -2
      · rcases a1.new k hk h2 with e | e <;> omega
      · have := a1.keep k hk h2; omega)
    obtain ⟨b1, b2, b3, b4⟩ := ih
    refine ⟨a1.trans b1, by omega, b3, fun he hfi => ?_⟩
    have he' := (b1.fine he).1
    have hfi' := (a1.fine he').2 hfi
    obtain ⟨c1, c2⟩ := b4 he hfi'
    obtain ⟨d1, d2⟩ := a4 he' hfi
    have hk := b1.keep j hjl (by omega)
    refine ⟨fun x hx => ?_, ?_⟩
    · rcases List.mem_cons.1 hx with rfl | hx
      · rw [hk]; exact ⟨d2, by omega⟩
      · exact c1 x hx
    · rcases c2 with e1 | ⟨x, hx, e1⟩
      · by_cases hmv : v + 1 ≤ m
        · left; omega
        · exact .inr ⟨j, by simp, by rw [hk]; omega⟩
      · exact .inr ⟨x, by simp [hx], e1⟩
theorem down_spec {ws : List Word} {sc : Nat → List Nat} (hsc : ∀ i, i < ws.length → ∀ j ∈ sc i, j < ws.length ∧ el ws j ∈ nx (el ws i)) : ∀ (n i : Nat), i < ws.length → ∀ (f : List Int) (e : Bool), DOK ws.length f → cntU f < n →
    (∀ k, k < ws.length → el f k = -1 → ∃ m, 1 ≤ m ∧ ReachN nx (el ws k) m (el ws i)) →
    DStep sc ws.length (Cyc nx ws) f e (downM sc n i (f, e)).1.1 (downM sc n i (f, e)).1.2 ∧ 0 ≤ (downM sc n i (f, e)).2 ∧ (downM sc n i (f, e)).2 ≤ (cntC (downM sc n i (f, e)).1.1 : Int) ∧
    ((downM sc n i (f, e)).1.2 = false → FineD sc f → (downM sc n i (f, e)).2 = el (downM sc n i (f, e)).1.1 i ∧ 0 ≤ el (downM sc n i (f, e)).1.1 i)
  | 0, i, hi, f, e, hf, hn, _ => by omega
  | n + 1, i, hi, f, e, hf, hn, hop => by
    rw [downM]
    by_cases h1 : el f i = -1
    · rw [if_pos (by exact h1)]
      obtain ⟨m, hm1, hm2⟩ := hop i hi h1
      dsimp only
      refine ⟨⟨hf, fun _ _ _ => rfl, fun _ _ h => .inl h, Nat.le_refl _, fun _ => .inr ⟨_, el_mem_of ws i hi, m, hm1, hm2⟩, fun h => by cases h⟩, by omega, by omega, fun h => by cases h⟩
    · rw [if_neg (by exact h1)]
      by_cases h2 : el f i = -2
      · rw [if_neg (by simpa using h2)]
        dsimp only
        have hil : i < f.length := by rw [hf.len]; exact hi
        have hU := countP_set (p := fun x => decide (x = -2)) f i (-1) hil
        have hC := countP_set (p := fun x => decide (0 ≤ x)) f i (-1) hil
        simp [h2] at hU hC
        have eC : cntC (f.set i (-1)) = cntC f := hC
        have eU : cntU (f.set i (-1)) + 1 = cntU f := hU
        have hop' : ∀ j ∈ sc i, ∀ k, k < ws.length → el (f.set i (-1)) k = -1 → ∃ m, 1 ≤ m ∧ ReachN nx (el ws k) m (el ws j) := by
          intro j hj k hk hk1
          have hx := (hsc i hi j hj).2
          by_cases hik : i = k
          · subst hik
            exact ⟨1, Nat.le_refl 1, .succ .zero hx⟩
          · rw [el_setG _ _ _ _ hil, if_neg hik] at hk1
            obtain ⟨m, hm1, hm2⟩ := hop k hk hk1
            exact ⟨m + 1, by omega, .succ hm2 hx⟩
        have hf' : DOK ws.length (f.set i (-1)) := by
          refine ⟨by simpa using hf.len, fun k hk => ?_, fun k hk => ?_⟩
          · rw [el_setG _ _ _ _ hil]
            have := hf.low k hk
            split <;> omega
          · rw [el_setG _ _ _ _ hil, eC]
            have := hf.top k hk
            split <;> omega
        have hE := each_spec (nx := nx) (ws := ws) (sc := sc) (C := Cyc nx ws) (d := downM sc n) (i := i) (n := n)
          (fun j hj g e' hg hgn hgo => down_spec hsc n j (hsc i hi j hj).1 g e' hg hgn hgo)
          (sc i) (f.set i (-1)) e 0 (fun j hj => ⟨hj, (hsc i hi j hj).1⟩) hf' (by omega) (by omega) (by omega) (fun j hj => hop' j hj)
        generalize hq : eachM (downM sc n) (sc i) (f.set i (-1), e) 0 = q at *
        obtain ⟨⟨g, e'⟩, v⟩ := q
        dsimp only at *
        obtain ⟨b1, b2, b3, b4⟩ := hE
        have hgl : i < g.length := by rw [b1.ok.len]; exact hi
        have hgi : el g i = -1 := by
          rw [b1.keep i hi ?_, el_setG _ _ _ _ hil, if_pos rfl]
          rw [el_setG _ _ _ _ hil, if_pos rfl]; decide
        have hCg := countP_set (p := fun x => decide (0 ≤ x)) g i v hgl
        have hUg := countP_set (p := fun x => decide (x = -2)) g i v hgl
        simp [hgi, b2, show v ≠ -2 by omega] at hCg hUg
        have eCg : cntC (g.set i v) = cntC g + 1 := hCg
        have eUg : cntU (g.set i v) = cntU g := hUg
        have hstep : DStep sc ws.length (Cyc nx ws) f e (g.set i v) e' := by
          refine ⟨⟨by simpa using b1.ok.len, fun k hk => ?_, fun k hk => ?_⟩, fun k hk hne => ?_, fun k hk hk2 => ?_, ?_, b1.cyc, fun he => ⟨(b1.fine he).1, fun hfi => ?_⟩⟩
          · rw [el_setG _ _ _ _ hgl]
            have := b1.ok.low k hk
            split <;> omega
          · rw [el_setG _ _ _ _ hgl, eCg]
            have := b1.ok.top k hk
            split <;> omega
          · have hik : ¬ i = k := fun e => hne (by rw [← e]; exact h2)
            rw [el_setG _ _ _ _ hgl, if_neg hik, b1.keep k hk ?_, el_setG _ _ _ _ hil, if_neg hik]
            rw [el_setG _ _ _ _ hil, if_neg hik]; exact hne
          · by_cases hik : i = k
            · rw [el_setG _ _ _ _ hgl, if_pos hik]; exact .inr b2
            · rw [el_setG _ _ _ _ hgl, if_neg hik]
              exact b1.new k hk (by rw [el_setG _ _ _ _ hil, if_neg hik]; exact hk2)
          · have := b1.cnt; omega
          · have hfi1 : FineD sc (f.set i (-1)) := by
              intro x hx hx0
              have hix : ¬ i = x := by
                intro e; subst e
                rw [el_setG _ _ _ _ hil, if_pos rfl] at hx0; omega
              rw [List.length_set] at hx
              rw [el_setG _ _ _ _ hil, if_neg hix] at hx0 ⊢
              obtain ⟨k1, k2⟩ := hfi x hx hx0
              refine ⟨fun j hj => ?_, ?_⟩
              · have := k1 j hj
                have hij : ¬ i = j := by intro e; subst e; omega
                rw [el_setG _ _ _ _ hil, if_neg hij]; exact this
              · rcases k2 with k2 | ⟨j, hj, k2⟩
                · exact .inl k2
                · have := k1 j hj
                  have hij : ¬ i = j := by intro e; subst e; omega
                  exact .inr ⟨j, hj, by rw [el_setG _ _ _ _ hil, if_neg hij]; exact k2⟩
            have hfg := (b1.fine he).2 hfi1
            obtain ⟨c1, c2⟩ := b4 he hfi1
            intro x hx hx0
            rw [List.length_set] at hx
            by_cases hix : i = x
            · subst hix
              rw [el_setG _ _ _ _ hgl, if_pos rfl]
              refine ⟨fun j hj => ?_, ?_⟩
              · have := c1 j hj
                have hij : ¬ i = j := by intro e; subst e; omega
                rw [el_setG _ _ _ _ hgl, if_neg hij]; exact this
              · rcases c2 with k2 | ⟨j, hj, k2⟩
                · exact .inl k2
                · have := c1 j hj
                  have hij : ¬ i = j := by intro e; subst e; omega
                  exact .inr ⟨j, hj, by rw [el_setG _ _ _ _ hgl, if_neg hij]; exact k2⟩
            · rw [el_setG _ _ _ _ hgl, if_neg hix] at hx0 ⊢
              obtain ⟨k1, k2⟩ := hfg x hx hx0
              refine ⟨fun j hj => ?_, ?_⟩
              · have := k1 j hj
                have hij : ¬ i = j := by intro e; subst e; omega
                rw [el_setG _ _ _ _ hgl, if_neg hij]; exact this
              · rcases k2 with k2 | ⟨j, hj, k2⟩
                · exact .inl k2
                · have := k1 j hj
                  have hij : ¬ i = j := by intro e; subst e; omega
                  exact .inr ⟨j, hj, by rw [el_setG _ _ _ _ hgl, if_neg hij]; exact k2⟩
        refine ⟨hstep, b2, by omega, fun _ _ => ?_⟩
        rw [el_setG _ _ _ _ hgl, if_pos rfl]
        exact ⟨rfl, b2⟩
      · rw [if_pos (by exact h2)]
        dsimp only
        have hlow := hf.low i hi
        have htop := hf.top i hi
        exact ⟨DStep.refl hf, by omega, htop, fun _ _ => ⟨rfl, by omega⟩⟩
theorem down_bnd {ws : List Word} {sc : Nat → List Nat} (hsc : ∀ i, i < ws.length → ∀ j ∈ sc i, j < ws.length) (n i : Nat) (hi : i < ws.length) (f : List Int) (e : Bool) (hf : DOK ws.length f) (hn : cntU f < n) :
    DOK ws.length (downM sc n i (f, e)).1.1 ∧ cntU (downM sc n i (f, e)).1.1 ≤ cntU f ∧ 0 ≤ (downM sc n i (f, e)).2 ∧ (downM sc n i (f, e)).2 ≤ (ws.length : Int) := by
  have h := down_spec (nx := fun _ => ws) (sc := sc) (fun i hi j hj => ⟨hsc i hi j hj, el_mem_of ws j (hsc i hi j hj)⟩) n i hi f e hf hn
    (fun k hk _ => ⟨1, Nat.le_refl 1, .succ .zero (el_mem_of ws i hi)⟩)
  obtain ⟨h1, h2, h3, _⟩ := h
  have h4 := cntC_le (downM sc n i (f, e)).1.1
  rw [h1.ok.len] at h4
  exact ⟨h1.ok, h1.cnt, h2, by omega⟩
theorem each_drop {d : Nat → DS → DS × Int} {α : Type} [Inhabited α] (l : List α) (c : α → Nat) (j : Nat) (hj : j < l.length) (st : DS) (m : Int) :
    eachM d ((l.drop j).map c) st m = eachM d ((l.drop (j + 1)).map c) (d (c (el l j)) st).1 (max m ((d (c (el l j)) st).2 + 1)) := by
  rw [drop_cons l j hj, List.map_cons, eachM]
theorem down_long {w : Word} {ws : List Word} {sc : Nat → List Nat} (ha : AllOK nx w ws) (hsc : ScOK nx ws sc) (hw : el ws 0 = w) (hl : 0 < ws.length) (n : Nat) (hn : ws.length < n) :
    LongR nx w (if (downM sc n 0 (List.replicate ws.length (-2), false)).1.2 then 0 else (downM sc n 0 (List.replicate ws.length (-2), false)).2) (!(downM sc n 0 (List.replicate ws.length (-2), false)).1.2) := by
  have hel : ∀ k, k < ws.length → el (List.replicate ws.length (-2 : Int)) k = -2 := by
    intro k hk
    rw [el_eq _ _ (by simpa using hk)]; simp
  have hok : DOK ws.length (List.replicate ws.length (-2)) := by
    refine ⟨by simp, fun k hk => ?_, fun k hk => ?_⟩
    · rw [hel k hk]; omega
    · rw [hel k hk]; omega
  have hc : cntU (List.replicate ws.length (-2)) < n := by
    have : cntU (List.replicate ws.length (-2)) ≤ (List.replicate ws.length (-2 : Int)).length := List.countP_le_length
    rw [List.length_replicate] at this
    omega
  have hs := down_spec hsc.lt n 0 hl (List.replicate ws.length (-2)) false hok hc (fun k hk h => by rw [hel k hk] at h; omega)
  generalize downM sc n 0 (List.replicate ws.length (-2), false) = q at *
  obtain ⟨⟨f, e⟩, v⟩ := q
  dsimp only at hs ⊢
  obtain ⟨s1, s2, s3, s4⟩ := hs
  have hf0 : FineD sc (List.replicate ws.length (-2)) := by
    intro i hi h0
    rw [List.length_replicate] at hi
    rw [hel i hi] at h0; omega
  cases e with
  | true =>
    refine ⟨fun h => (by cases h), fun _ => ⟨by simp, ?_⟩⟩
    rcases s1.cyc rfl with h | ⟨x, hx, m, hm, hr⟩
    · cases h
    · obtain ⟨d, hd⟩ := ha.reach x hx
      exact ever_of_cycle hd hm hr
  | false =>
    refine ⟨fun _ => ?_, fun h => (by cases h)⟩
    simp only [Bool.false_eq_true, if_false]
    obtain ⟨t1, t2⟩ := s4 rfl hf0
    have hfi := (s1.fine rfl).2 hf0
    have hfl := s1.ok.len
    refine ⟨⟨v.toNat, by omega, ?_⟩, fun m x hx => ?_⟩
    · have key : ∀ (m i : Nat), i < ws.length → el f i = (m : Int) → ∃ x, ReachN nx (el ws i) m x := by
        intro m
        induction m with
        | zero => exact fun i _ _ => ⟨_, .zero⟩
        | succ m ih =>
          intro i hi he
          obtain ⟨_, k2⟩ := hfi i (by omega) (by omega)
          rcases k2 with k2 | ⟨j, hj, k2⟩
          · omega
          · obtain ⟨hjl, hjx⟩ := hsc.lt i hi j hj
            obtain ⟨x, hx⟩ := ih j hjl (by omega)
            exact ⟨x, hx.cons hjx⟩
      have := key v.toNat 0 hl (by omega)
      rw [hw] at this
      exact this
    · have key : ∀ (m : Nat) (x : Word), ReachN nx w m x → ∃ q, q < ws.length ∧ el ws q = x ∧ 0 ≤ el f q ∧ (m : Int) + el f q ≤ v := by
        intro m
        induction m with
        | zero =>
          intro x hx
          cases hx
          exact ⟨0, hl, hw, t2, by omega⟩
        | succ m ih =>
          intro x hx
          cases hx with
          | succ h5 h6 =>
            obtain ⟨q, hq, rfl, h7, h8⟩ := ih _ h5
            obtain ⟨k1, _⟩ := hfi q (by omega) h7
            obtain ⟨j, hj, hjx⟩ := hsc.all q hq x h6
            have := k1 j hj
            exact ⟨j, (hsc.lt q hq j hj).1, hjx, this.1, by omega⟩
      obtain ⟨q, _, _, h1, h2⟩ := key m x hx
      omega
end Go.Proofs.YtkhddecnllcaiaaGreat
end

section
/- Contracts: feed's longest walk, found by going deep (the function that calls itself over captured variables). -/
namespace Go.Proofs.YtkhddecnllcaiaaGreat
open Go.Abs Go
set_option maxRecDepth 20000
set_option maxHeartbeats 2000000
attribute [local irreducible] PreK CondK CallK CallG CallX LoopK
attribute [local simp] avsEq avEq akind teq vkind vEq T_101

def posW (ws : List Word) (x : Word) : Nat := match mfind (.str (keyS x)) (entsF 0 ws) 0 with
  | some (i, _) => i
  | none => 0
theorem posW_spec {ws : List Word} {x : Word} (hf : ∀ y ∈ ws, fine y) (hx : x ∈ ws) : posW ws x < ws.length ∧ el ws (posW ws x) = x ∧ mfind (.str (keyS x)) (entsF 0 ws) 0 = some (posW ws x, iv (posW ws x : Int)) := by
  obtain ⟨i, h1, h2, h3⟩ := mfind_some (k := 0) (j := 0) hf hx
  have e : posW ws x = i := by
    unfold posW
    rw [h3]
    simp
  rw [e]
  refine ⟨h1, h2, ?_⟩
  rw [h3]
  simp
def scG (s : List Rule) (g : Gr) (i : Nat) : List Nat := (movesM s (el g.ws i)).map fun m => posW g.ws m.word
/-- What is reached is closed. -/
def Shut (s : List Rule) (g : Gr) : Prop := ∀ i, i < g.ws.length → ∀ m ∈ movesM s (el g.ws i), m.word ∈ g.ws
theorem scG_lt {s : List Rule} {g : Gr} (hok : g.ok) (hc : Shut s g) : ∀ i, i < g.ws.length → ∀ j ∈ scG s g i, j < g.ws.length := by
  intro i hi j hj
  obtain ⟨m, hm, rfl⟩ := List.mem_map.1 hj
  exact (posW_spec (fun x hx => fine_of (hok.fine x hx)) (hc i hi m hm)).1

theorem DOK.ok_set {N : Nat} {f : List Int} (h : DOK N f) {i : Nat} (hi : i < N) (h2 : el f i = -2) : DOK N (f.set i (-1)) ∧ cntU (f.set i (-1)) + 1 = cntU f := by
  have hil : i < f.length := by rw [h.len]; exact hi
  have hU := countP_set (p := fun x => decide (x = -2)) f i (-1) hil
  have hC := countP_set (p := fun x => decide (0 ≤ x)) f i (-1) hil
  simp [h2] at hU hC
  have eC : cntC (f.set i (-1)) = cntC f := hC
  refine ⟨⟨by simpa using h.len, fun k hk => ?_, fun k hk => ?_⟩, hU⟩
  · rw [el_setG _ _ _ _ hil]
    have := h.low k hk
    split <;> omega
  · rw [el_setG _ _ _ _ hil, eC]
    have := h.top k hk
    split <;> omega
def pts : List AV := [.pt 101 0 0 0, .pt 102 0 0 0, .pt 103 0 0 0, .pt 104 0 0 0]
def lgM (s : List Rule) (g : Gr) (f : List Int) (e : Bool) : List (Nat × Option Box) :=
  [(101, some ⟨1, [.sl 105 0 0 g.ws.length], 0, true⟩), (102, some ⟨1, [bv e], 0, true⟩), (103, some ⟨1, [.ipt (graphV s g) 0], 0, true⟩), (104, some ⟨1, [.fn 81 [] pts], 0, true⟩), (105, some ⟨1, f.map iv, 0, false⟩)]
def lgN : Names := [(101, 0, 101), (102, 0, 102), (103, 0, 103), (104, 0, 104), (105, 0, 105)]

theorem deep_b (s : List Rule) (g : Gr) (h : Sys.small s) (hs : sysErr s = 0) (hok : g.ok) (hc : Shut s g) : ∀ (n i : Nat) (f : List Int) (e : Bool), i < g.ws.length → DOK g.ws.length f → cntU f < n →
    CallB Tryz.prog 81 (iv i :: pts) (lgM s g f e) (iv (downM (scG s g) n i (f, e)).2) (lgM s g (downM (scG s g) n i (f, e)).1.1 (downM (scG s g) n i (f, e)).1.2)
  | 0, i, f, e, hi, hf, hn => by omega
  | n + 1, i, f, e, hi, hf, hn => by
    have hlen := hf.len
    have hil : i < f.length := by omega
    have hnum := hok.num
    have hlow := hf.low i hi
    have htop := hf.top i hi
    have hcle := cntC_le f
    by_cases h1 : el f i = -1
    · have e1 : downM (scG s g) (n + 1) i (f, e) = ((f, true), 0) := by rw [downM, if_pos (by exact h1)]
      rw [e1]
      refine CB81 (by simp [pts]) (by simp [lgM]) ?_
      simp [A81, lgM, pts, graphV]
      repeat (refine PreK.intro (by first | omega | (intros; first | omega | (refine ⟨by omega, ?_⟩; simp_all; done) | (simp_all; done) | (simp_all; omega))) fun _ => ?_; (try simp [hlen, hi, hil]))
      refine CondK.intro (fun h3 => ?_) (fun h3 => ?_)
      · repeat (refine PreK.intro (by first | omega | (intros; first | omega | (refine ⟨by omega, ?_⟩; simp_all; done) | (simp_all; done) | (simp_all; omega))) fun _ => ?_; (try simp [hlen, hi, hil]))
      · simp at h3; omega
    · by_cases h2 : el f i = -2
      · generalize hR : eachM (downM (scG s g) n) (scG s g i) (f.set i (-1), e) 0 = RA
        have e1 : downM (scG s g) (n + 1) i (f, e) = ((RA.1.1.set i RA.2, RA.1.2), RA.2) := by rw [downM, if_neg (by exact h1), if_neg (by simpa using h2), hR]
        rw [e1]
        have hmc := moves_c s (el g.ws i) h hs (hok.fine _ (el_mem_of g.ws i hi))
        have hln : lgN = [(101, 0, 101), (102, 0, 102), (103, 0, 103), (104, 0, 104), (105, 0, 105)] := rfl
        refine CB81 (by simp [pts]) (by simp [lgM]) ?_
        simp [A81, lgM, pts, graphV]
        repeat (refine PreK.intro (by first | omega | (intros; first | omega | (refine ⟨by omega, ?_⟩; simp_all; done) | (simp_all; done) | (simp_all; omega))) fun _ => ?_; (try simp [hlen, hi, hil]))
        refine CondK.intro (fun h3 => ?_) (fun h3 => ?_)
        · simp at h3; omega
        · repeat (refine PreK.intro (by first | omega | (intros; first | omega | (refine ⟨by omega, ?_⟩; simp_all; done) | (simp_all; done) | (simp_all; omega))) fun _ => ?_; (try simp [hlen, hi, hil]))
          refine CondK.intro (fun h4 => ?_) (fun h4 => ?_)
          · simp at h4; omega
          · repeat (refine PreK.intro (by first | omega | (intros; first | omega | (refine ⟨by omega, ?_⟩; simp_all; done) | (simp_all; done) | (simp_all; omega))) fun _ => ?_; (try simp [hlen, hi, hil]))
            refine CallK.intro (by simpa using hmc) (by simp) (by simp) ?_
            try simp [hlen, hi, hil]
            repeat (refine PreK.intro (by first | omega | (intros; first | omega | (refine ⟨by omega, ?_⟩; simp_all; done) | (simp_all; done) | (simp_all; omega))) fun _ => ?_; (try simp [hlen, hi, hil]))
            have hfs := hf.ok_set hi h2
            have hml := movesM_len hs (hok.fine _ (el_mem_of g.ws i hi))
            generalize hms : movesM s (el g.ws i) = ms at *
            refine LoopK.by (ι := Nat × List Int × Bool × Int) (fun x => ⟨[(40, iv x.1), (39, iv ms.length), (38, movesV ms), (7, iv x.2.2.2), (0, iv i), (1, .pt 101 0 0 0), (3, .pt 103 0 0 0), (4, .pt 104 0 0 0)], lgM s g x.2.1 x.2.2.1⟩)
              (fun x => ms.length - x.1) (fun x => x.1 ≤ ms.length ∧ DOK g.ws.length x.2.1 ∧ cntU x.2.1 < n ∧ 0 ≤ x.2.2.2 ∧ x.2.2.2 ≤ g.ws.length + 1 ∧ eachM (downM (scG s g) n) ((ms.drop x.1).map fun m => posW g.ws m.word) (x.2.1, x.2.2.1) x.2.2.2 = RA)
              (0, f.set i (-1), e, 0) ⟨Nat.zero_le _, hfs.1, by have := hfs.2; dsimp only; omega, Int.le_refl 0, by dsimp only; omega, by simpa [scG, hms] using hR⟩ (by simp [lgM, pts, graphV]) ?_
            intro ⟨j, f', e', m⟩ Q' ⟨hj, hf', hn', hm0, hm1, hc'⟩ hq he hr
            dsimp only at hj hf' hn' hm0 hm1 hc'
            have hlen' := hf'.len
            simp only [lgM, pts, graphV]
            repeat (refine PreK.intro (by first | omega | (intros; first | omega | (refine ⟨by omega, ?_⟩; simp_all; done) | (simp_all; done) | (simp_all; omega))) fun _ => ?_; (try simp [hlen', hi]))
            refine CondK.intro (fun h5 => ?_) (fun h5 => ?_)
            · simp at h5
              rw [each_drop ms _ j h5] at hc'
              have hm := hc i hi (el ms j) (by rw [hms]; exact el_mem_of ms j h5)
              have hw := hok.fine _ hm
              have hkc := key_c (el ms j).word (by have := (wordErr_zero hw).1; omega) (fine_of hw)
              obtain ⟨q1, _, q3⟩ := posW_spec (fun x hx => fine_of (hok.fine x hx)) hm
              generalize posW g.ws (el ms j).word = q at *
              have hdb := deep_b s g h hs hok hc n q f' e' q1 hf' hn'
              have hbd := down_bnd (scG_lt hok hc) n q q1 f' e' hf' hn'
              generalize downM (scG s g) n q (f', e') = D at *
              obtain ⟨⟨f2, e2⟩, v⟩ := D
              dsimp only at hbd hdb hc'
              simp only [lgM, pts, graphV] at hdb
              repeat (refine PreK.intro (by first | omega | (intros; first | omega | (refine ⟨by omega, ?_⟩; simp_all; done) | (simp_all; done) | (simp_all; omega))) fun _ => ?_; (try simp [hlen', hi, h5, q3, keysOK_ents]))
              refine CallK.intro (by simpa using hkc) (by simp) (by simp) ?_
              try simp [q3, keysOK_ents]
              repeat (refine PreK.intro (by first | omega | (intros; first | omega | (refine ⟨by omega, ?_⟩; simp_all; done) | (simp_all; done) | (simp_all; omega))) fun _ => ?_; (try simp [hlen', hi, h5, q3, keysOK_ents]))
              refine CallK.boxes [(101, 0, 101), (102, 0, 102), (103, 0, 103), (104, 0, 104), (105, 0, 105)] (by simp) (by simpa using hdb) ?_
              obtain ⟨b1, b2, b3, b4⟩ := hbd
              have hmx : max m (v + 1) = if m < v + 1 then v + 1 else m := by split <;> omega
              rw [hmx] at hc'
              have hm2 : 0 ≤ (if m < v + 1 then v + 1 else m) ∧ (if m < v + 1 then v + 1 else m) ≤ (g.ws.length : Int) + 1 := by split <;> omega
              try simp 
              repeat (refine PreK.intro (by first | omega | (intros; first | omega | (refine ⟨by omega, ?_⟩; simp_all; done) | (simp_all; done) | (simp_all; omega))) fun _ => ?_; (try simp ))
              exact hq (j + 1, f2, e2, if m < v + 1 then v + 1 else m) _ ⟨by dsimp only; omega, b1, by dsimp only; omega, hm2.1, hm2.2, hc'⟩ (by dsimp only; omega) (by simp [lgM, pts, graphV])
            · simp at h5
              rw [List.drop_eq_nil_of_le (by omega)] at hc'
              simp only [List.map_nil, eachM] at hc'
              subst hc'
              have hil' : i < f'.length := by omega
              try simp 
              apply he
              repeat (refine PreK.intro (by first | omega | (intros; first | omega | (refine ⟨by omega, ?_⟩; simp_all; done) | (simp_all; done) | (simp_all; omega))) fun _ => ?_; (try simp [hlen', hi, hil']))
      · have e1 : downM (scG s g) (n + 1) i (f, e) = ((f, e), el f i) := by rw [downM, if_neg (by exact h1), if_pos (by exact h2)]
        rw [e1]
        refine CB81 (by simp [pts]) (by simp [lgM]) ?_
        simp [A81, lgM, pts, graphV]
        repeat (refine PreK.intro (by first | omega | (intros; first | omega | (refine ⟨by omega, ?_⟩; simp_all; done) | (simp_all; done) | (simp_all; omega))) fun _ => ?_; (try simp [hlen, hi, hil]))
        refine CondK.intro (fun h3 => ?_) (fun h3 => ?_)
        · simp at h3; omega
        · repeat (refine PreK.intro (by first | omega | (intros; first | omega | (refine ⟨by omega, ?_⟩; simp_all; done) | (simp_all; done) | (simp_all; omega))) fun _ => ?_; (try simp [hlen, hi, hil]))
          refine CondK.intro (fun h4 => ?_) (fun h4 => ?_)
          · repeat (refine PreK.intro (by first | omega | (intros; first | omega | (refine ⟨by omega, ?_⟩; simp_all; done) | (simp_all; done) | (simp_all; omega))) fun _ => ?_; (try simp [hlen, hi, hil]))
          · simp at h4; omega
end Go.Proofs.YtkhddecnllcaiaaGreat
end

section
/- Contracts: a product of which one is one; slices.Repeat of one number. -/
namespace Go.Proofs.YtkhddecnllcaiaaGreat
open Go.Abs Go
set_option maxRecDepth 20000
set_option maxHeartbeats 2000000
attribute [local irreducible] PreK CondK CallK CallG CallX LoopK
attribute [local simp] avsEq avEq akind teq vkind vEq T_114

def uv (n : Int) : AV := .raw (.int .u64 n)
theorem Mul64_c (n : Nat) (h : n ≤ 1000) : CallP Tryz.prog 152 [uv 1, uv n] (.tup [uv 0, uv n]) := by
  refine C152 (by simp) ?_
  have h1 : n &&& 4294967295 = n := by
    have := Nat.and_two_pow_sub_one_eq_mod n 32
    rw [show (2 : Nat) ^ 32 - 1 = 4294967295 by decide] at this
    rw [this]
    exact Nat.mod_eq_of_lt (by omega)
  have h2 : Int.fdiv (n : Int) 4294967296 = 0 := by
    rw [Int.fdiv_eq_ediv_of_nonneg _ (by decide)]
    omega
  simp [A152, uv]
  repeat (refine PreK.intro (by first | omega | (intros; first | omega | (refine ⟨by omega, ?_⟩; simp_all; done) | (simp_all; done) | (simp_all; omega))) fun _ => ?_; (try simp [h1, h2]))
theorem Mul_c (n : Nat) (h : n ≤ 1000) : CallP Tryz.prog 106 [uv 1, uv n] (.tup [uv 0, uv n]) := by
  refine C106 (by simp) ?_
  have := Mul64_c n h
  simp only [uv] at this ⊢
  simp [A106]
  refine CondK.intro (fun h1 => ?_) (fun h1 => ?_)
  · cases h1
  · try simp 
    repeat' (first
      | (refine CallX.pure (this) (by simp) (by simp) ?_; try simp )
      | (refine CallK.intro (this) (by simp) (by simp) ?_; try simp )
      | (refine CallG.intro (fun _ => this) (by simp) (by simp) ?_; try simp )
      | ((with_reducible refine PreK.intro ?_ ?_); (next => (first | omega | (intros; first | omega | (refine ⟨by omega, ?_⟩; repeat (first | assumption | constructor)) | assumption))); intro _; try simp )
      | fail)
/-- A row of one number, made by taking what is there twice, again and again. -/
theorem repeat_o (k : Bool) (v : Int) (n : Nat) (h0 : 0 < n) (h : n ≤ 1000) : CallO Tryz.prog 80 [.seq 1 [iv v] k, iv (n : Int)] 1 (List.replicate n (iv v)) := by
  refine CO80 (by simp) ?_
  have hm := Mul_c n h
  simp only [uv] at hm
  simp [A80]
  repeat (refine PreK.intro (by first | omega | (intros; first | omega | (refine ⟨by omega, ?_⟩; simp_all; done) | (simp_all; done) | (simp_all; omega))) fun _ => ?_; (try simp ))
  refine CondK.intro (fun h1 => ?_) (fun h1 => ?_)
  · simp at h1; omega
  · repeat (refine PreK.intro (by first | omega | (intros; first | omega | (refine ⟨by omega, ?_⟩; simp_all; done) | (simp_all; done) | (simp_all; omega))) fun _ => ?_; (try simp ))
    have w1 : IntKind.u64.wrap 1 = 1 := by decide
    have w2 : IntKind.u64.wrap (n : Int) = n := wrap_in (by simp only [inR]; omega)
    have w3 : IntKind.i64.wrap (n : Int) = n := wrap_in (by simp only [inR]; omega)
    repeat (refine PreK.intro (by first | omega | (intros; first | omega | (refine ⟨by omega, ?_⟩; simp_all; done) | (simp_all; done) | (simp_all; omega))) fun _ => ?_; (try simp [w1, w2, w3]))
    rw [w1, w2]
    try simp [w1, w2, w3]
    repeat' (first
      | (refine CallX.pure (hm) (by simp) (by simp) ?_; try simp [w1, w2, w3])
      | (refine CallK.intro (hm) (by simp) (by simp) ?_; try simp [w1, w2, w3])
      | (refine CallG.intro (fun _ => hm) (by simp) (by simp) ?_; try simp [w1, w2, w3])
      | ((with_reducible refine PreK.intro ?_ ?_); (next => (first | omega | (intros; first | omega | (refine ⟨by omega, ?_⟩; repeat (first | assumption | constructor)) | assumption))); intro _; try simp [w1, w2, w3])
      | fail)
    refine CondK.intro (fun h2 => ?_) (fun h2 => ?_)
    · simp at h2; omega
    · repeat (refine PreK.intro (by first | omega | (intros; first | omega | (refine ⟨by omega, ?_⟩; simp_all; done) | (simp_all; done) | (simp_all; omega))) fun _ => ?_; (try simp [w1, w2, w3]))
      have t1 : List.take n [AV.raw (Value.int IntKind.i64 v)] = [AV.raw (Value.int IntKind.i64 v)] := List.take_of_length_le h0
      have t2 : min n 1 = 1 := by omega
      have t3 : min 1 n = 1 := by omega
      refine LoopK.by (ι := Nat) (fun k => ⟨[(8, iv k), (7, .sl 30 1 0 n)], [(30, some ⟨1, List.replicate k (iv v) ++ List.replicate (n - k) (iv 0), 1, false⟩)]⟩) (fun k => n - k) (fun k => 1 ≤ k ∧ k ≤ n) 1 ⟨Nat.le_refl 1, h0⟩ (by simp [t1, t2, t3]) ?_
      intro k Q' ⟨k1, k2⟩ hq he hr
      repeat (refine PreK.intro (by first | omega | (intros; first | omega | (refine ⟨by omega, ?_⟩; simp_all; done) | (simp_all; done) | (simp_all; omega))) fun _ => ?_; (try simp ))
      refine CondK.intro (fun h3 => ?_) (fun h3 => ?_)
      · simp at h3
        repeat (refine PreK.intro (by first | omega | (intros; first | omega | (refine ⟨by omega, ?_⟩; simp_all; done) | (simp_all; done) | (simp_all; omega))) fun _ => ?_; (try simp [h3]))
        have e1 : min k (n - k) = min (n - k) k := Nat.min_comm _ _
        have e2 : List.drop (k + min (n - k) k) (List.replicate k (AV.raw (Value.int IntKind.i64 v)) ++ List.replicate (n - k) (AV.raw (Value.int IntKind.i64 0))) = List.replicate (n - (k + min (n - k) k)) (AV.raw (Value.int IntKind.i64 0)) := by
          rw [List.drop_append, List.drop_replicate, List.drop_replicate, List.length_replicate, show k - (k + min (n - k) k) = 0 by omega, show n - k - (k + min (n - k) k - k) = n - (k + min (n - k) k) by omega]
          simp
        exact hq (k + min (n - k) k) _ ⟨by omega, by omega⟩ (by omega) (by simp [e1, e2])
      · simp at h3
        have e : k = n := by omega
        subst e
        try simp 
        apply he
        repeat (refine PreK.intro (by first | omega | (intros; first | omega | (refine ⟨by omega, ?_⟩; simp_all; done) | (simp_all; done) | (simp_all; omega))) fun _ => ?_; (try simp ))
end Go.Proofs.YtkhddecnllcaiaaGreat
end

section
/- Plain: paths, and the shortest one that a search gives. -/
namespace Go.Proofs.YtkhddecnllcaiaaGreat
open Go.Abs Go

/-- The steps back from the i-th word to the first one. -/
def backM (g : Gr) : Nat → Nat → List Step
  | 0, _ => []
  | n + 1, i => if el g.frm i < 0 then [] else el g.stp i :: backM g n (el g.frm i).toNat
end Go.Proofs.YtkhddecnllcaiaaGreat
end

section
/- Plain: a system without a rule. -/
namespace Go.Proofs.YtkhddecnllcaiaaGreat
open Go.Abs Go

theorem closed_mem {s : List Rule} {w : Word} {g : Gr} (h : reachG s w = some g) : (∀ n x, ReachN (nxP s) w n x → x ∈ g.ws) ∧ ∀ x ∈ g.ws, ∃ n, ReachN (nxP s) w n x := by
  have h1 := reachG_F s w
  rw [h] at h1
  cases hc : closeM (nxP s) w with
  | none => rw [hc] at h1; exact h1.elim
  | some ws =>
    rw [hc] at h1
    have hcl := closeM_some hc
    refine ⟨fun n x hx => ?_, fun x hx => ?_⟩
    · obtain ⟨z, hz, e, _⟩ := hcl.all n x hx
      rw [h1.words]
      exact List.mem_map.2 ⟨z, hz, e⟩
    · rw [h1.words] at hx
      obtain ⟨y, hy, rfl⟩ := List.mem_map.1 hx
      exact ⟨_, hcl.reach y hy⟩
end Go.Proofs.YtkhddecnllcaiaaGreat
end

section
/- Plain: weights that hold are at least the smallest ones, and bound all walks; a closed graph. -/
namespace Go.Proofs.YtkhddecnllcaiaaGreat
open Go.Abs Go

/-! ### what is reached begins with the word -/
theorem addG_first {i : Nat} {x : Word} : ∀ {l : List Move} {g g' : Gr}, 0 < g.ws.length → el g.ws 0 = x → addG i g l = some g' → 0 < g'.ws.length ∧ el g'.ws 0 = x
  | [], g, g', h0, h, he => by simp only [addG, Option.some.injEq] at he; subst he; exact ⟨h0, h⟩
  | m :: l, g, g', h0, h, he => by
    rw [addG] at he
    split at he
    · exact addG_first h0 h he
    · split at he
      · cases he
      · exact addG_first (by simp) (by dsimp only; rw [el_app_left _ _ h0]; exact h) he
theorem closeG_first {s : List Rule} {x : Word} : ∀ (n i : Nat) {g g' : Gr}, 0 < g.ws.length → el g.ws 0 = x → closeG s n i g = some g' → el g'.ws 0 = x
  | 0, i, g, g', h0, h, he => by simp only [closeG, Option.some.injEq] at he; subst he; exact h
  | n + 1, i, g, g', h0, h, he => by
    rw [closeG] at he
    split at he
    · cases ha : addG i g (movesM s (el g.ws i)) with
      | none => rw [ha] at he; cases he
      | some g1 =>
        rw [ha] at he
        obtain ⟨h1, h2⟩ := addG_first h0 h ha
        exact closeG_first n (i + 1) h1 h2 he
    · simp only [Option.some.injEq] at he; subst he; exact h
theorem reachG_first {s : List Rule} {w : Word} {g : Gr} (h : reachG s w = some g) : el g.ws 0 = w := closeG_first 301 0 (by simp) rfl h
end Go.Proofs.YtkhddecnllcaiaaGreat
end

section
/- Contracts: the longest walk; feed's Longest and Forever. -/
namespace Go.Proofs.YtkhddecnllcaiaaGreat
open Go.Abs Go
set_option maxRecDepth 20000
set_option maxHeartbeats 2000000
attribute [local irreducible] PreK CondK CallK CallG CallX LoopK
attribute [local simp] avsEq avEq akind teq vkind vEq T_101

theorem shut_of {s : List Rule} {w : Word} {g : Gr} (h : reachG s w = some g) : Shut s g := by
  obtain ⟨h1, h2⟩ := closed_mem h
  intro i hi m hm
  obtain ⟨n, hn⟩ := h2 (el g.ws i) (el_mem_of g.ws i hi)
  exact h1 (n + 1) _ (.succ hn (List.mem_map.2 ⟨m, hm, rfl⟩))
def deepG (s : List Rule) (g : Gr) : DS × Int := downM (scG s g) (g.ws.length + 1) 0 (List.replicate g.ws.length (-2), false)
def LongestG (s : List Rule) (g : Gr) : Int × Bool := (if (deepG s g).1.2 then 0 else (deepG s g).2, !(deepG s g).1.2)
theorem longestG_spec {s : List Rule} {w : Word} {g : Gr} (h : reachG s w = some g) (hok : g.ok) : LongR (nxP s) w (LongestG s g).1 (LongestG s g).2 := by
  obtain ⟨h1, h2⟩ := closed_mem h
  have hf : ∀ y ∈ g.ws, fine y := fun x hx => fine_of (hok.fine x hx)
  have hs := shut_of h
  have hsc : ScOK (nxP s) g.ws (scG s g) := by
    refine ⟨fun i hi j hj => ?_, fun i hi x hx => ?_⟩
    · obtain ⟨m, hm, rfl⟩ := List.mem_map.1 hj
      obtain ⟨a, b, _⟩ := posW_spec hf (hs i hi m hm)
      rw [b]
      exact ⟨a, List.mem_map.2 ⟨m, hm, rfl⟩⟩
    · obtain ⟨m, hm, rfl⟩ := List.mem_map.1 hx
      exact ⟨_, List.mem_map.2 ⟨m, hm, rfl⟩, (posW_spec hf (hs i hi m hm)).2.1⟩
  exact down_long ⟨h1 0 w .zero, h2, h1⟩ hsc (reachG_first h) hok.some _ (Nat.lt_succ_self _)
def LongestE (s : List Rule) (w : Word) : Int × Bool × Int := if swErr s w ≠ 0 then (0, false, swErr s w) else match reachG s w with
  | none => (0, false, 3)
  | some g => ((LongestG s g).1, (LongestG s g).2, 0)
theorem dok_start (g : Gr) : DOK g.ws.length (List.replicate g.ws.length (-2)) := by
  have hel : ∀ k, k < g.ws.length → el (List.replicate g.ws.length (-2 : Int)) k = -2 := by
    intro k hk
    rw [el_eq _ _ (by simpa using hk)]; simp
  refine ⟨by simp, fun k hk => ?_, fun k hk => ?_⟩
  · rw [hel k hk]; omega
  · rw [hel k hk]; omega
theorem longest_c (s : List Rule) (g : Gr) (h : Sys.small s) (hs : sysErr s = 0) (hok : g.ok) (hc : Shut s g) :
    CallP Tryz.prog 41 [.ipt (graphV s g) 0] (.tup [iv (LongestG s g).1, bv (LongestG s g).2]) := by
  refine C41 (by simp) ?_
  have hnum := hok.num
  have h0 := hok.some
  have hrep := repeat_o false (-2) g.ws.length hok.some (by omega)
  have hcu : cntU (List.replicate g.ws.length (-2 : Int)) < g.ws.length + 1 := by
    have : cntU (List.replicate g.ws.length (-2 : Int)) ≤ (List.replicate g.ws.length (-2 : Int)).length := List.countP_le_length
    rw [List.length_replicate] at this
    omega
  have hdb := deep_b s g h hs hok hc (g.ws.length + 1) 0 (List.replicate g.ws.length (-2)) false hok.some (dok_start g) hcu
  unfold LongestG deepG
  generalize downM (scG s g) (g.ws.length + 1) 0 (List.replicate g.ws.length (-2), false) = D at hdb ⊢
  obtain ⟨⟨f, e⟩, v⟩ := D
  dsimp only at hdb ⊢
  simp only [lgM, pts, graphV] at hdb
  simp [A41, graphV]
  repeat (refine PreK.intro (by first | omega | (intros; first | omega | (refine ⟨by omega, ?_⟩; simp_all; done) | (simp_all; done) | (simp_all; omega))) fun _ => ?_; (try simp ))
  refine CallX.own (by simpa using hrep) (by simp) (by simp) ?_
  try simp 
  repeat (refine PreK.intro (by first | omega | (intros; first | omega | (refine ⟨by omega, ?_⟩; simp_all; done) | (simp_all; done) | (simp_all; omega))) fun _ => ?_; (try simp ))
  refine CallX.boxes [(4, 1, 101), (5, 1, 102), (1, 1, 103), (6, 1, 104), (14, 1, 105)] (by simp) (by simpa using hdb) ?_
  try simp 
  repeat (refine PreK.intro (by first | omega | (intros; first | omega | (refine ⟨by omega, ?_⟩; simp_all; done) | (simp_all; done) | (simp_all; omega))) fun _ => ?_; (try simp ))
  refine CondK.intro (fun h1 => ?_) (fun h1 => ?_)
  · subst h1
    repeat (refine PreK.intro (by first | omega | (intros; first | omega | (refine ⟨by omega, ?_⟩; simp_all; done) | (simp_all; done) | (simp_all; omega))) fun _ => ?_; (try simp ))
  · subst h1
    repeat (refine PreK.intro (by first | omega | (intros; first | omega | (refine ⟨by omega, ?_⟩; simp_all; done) | (simp_all; done) | (simp_all; omega))) fun _ => ?_; (try simp ))
end Go.Proofs.YtkhddecnllcaiaaGreat
end

section
/- Contracts: feed's IsCalm and One. -/
namespace Go.Proofs.YtkhddecnllcaiaaGreat
open Go.Abs Go
set_option maxRecDepth 20000
set_option maxHeartbeats 2000000
attribute [local irreducible] PreK CondK CallK CallG CallX LoopK
attribute [local simp] avsEq avEq akind teq vkind vEq

theorem calm_all {rows : List (List Int)} : calmB rows = true ↔ ∀ r, r < rows.length → ∀ i, i < (el rows r).length → ∀ k, k < i → commonB (cloB rows (el (el rows r) i).toNat) (cloB rows (el (el rows r) k).toNat) = true := by
  unfold calmB
  simp only [List.all_eq_true, List.mem_range]
  constructor
  · intro hc r hr i hi k hk
    exact hc (el rows r) (by rw [el_eq _ _ hr]; exact List.getElem_mem _) i hi k hk
  · intro hc all hall i hi k hk
    obtain ⟨r, hr, rfl⟩ := mem_el hall
    exact hc r hr i hi k hk
theorem calm_not {rows : List (List Int)} {r i k : Nat} (hr : r < rows.length) (hi : i < (el rows r).length) (hk : k < i) (h : commonB (cloB rows (el (el rows r) i).toNat) (cloB rows (el (el rows r) k).toNat) = false) : calmB rows = false := by
  cases hc : calmB rows with
  | false => rfl
  | true =>
    have := calm_all.1 hc r hr i hi k hk
    rw [h] at this; cases this
/-- To which words steps lead, by their numbers. -/
def rowG (s : List Rule) (g : Gr) (l : Word) : List Int := (NextR s l).map fun v => (posW g.ws v : Int)
def rowsG (s : List Rule) (g : Gr) : List (List Int) := g.ws.map (rowG s g)
theorem mem_NextR {s : List Rule} {w x : Word} : x ∈ NextR s w ↔ x ∈ nxP s w := by
  unfold NextR
  exact (uniq_sorted _).2 x
theorem next_in {s : List Rule} {g : Gr} (hc : Shut s g) {i : Nat} (hi : i < g.ws.length) {x : Word} (hx : x ∈ NextR s (el g.ws i)) : x ∈ g.ws := by
  obtain ⟨m, hm, rfl⟩ := List.mem_map.1 (mem_NextR.1 hx)
  exact hc i hi m hm
theorem rowsG_for {s : List Rule} {g : Gr} (hok : g.ok) (hc : Shut s g) : RowsFor (nxP s) g.ws (rowsG s g) := by
  have hf : ∀ x ∈ g.ws, fine x := fun x hx => fine_of (hok.fine x hx)
  have hel : ∀ i, i < g.ws.length → el (rowsG s g) i = rowG s g (el g.ws i) := fun i hi => el_mapG _ _ hi
  refine ⟨by simp [rowsG], fun i hi q hq => ?_, fun i hi x hx => ?_⟩
  · rw [hel i hi] at hq
    obtain ⟨v, hv, rfl⟩ := List.mem_map.1 hq
    obtain ⟨h1, h2, _⟩ := posW_spec hf (next_in hc hi hv)
    exact ⟨_, rfl, h1, by rw [h2]; exact mem_NextR.1 hv⟩
  · have hv := mem_NextR.2 hx
    obtain ⟨h1, h2, _⟩ := posW_spec hf (next_in hc hi hv)
    exact ⟨_, h1, h2, by rw [hel i hi]; exact List.mem_map.2 ⟨x, hv, rfl⟩⟩
theorem rowsFor_rng {nx : Word → List Word} {ws : List Word} {rows : List (List Int)} (h : RowsFor nx ws rows) : Rng rows := by
  intro j hj p hp
  obtain ⟨k, e, hk, _⟩ := h.to j (by rw [← h.len]; exact hj) (el (el rows j) p) (by rw [el_eq _ _ hp]; exact List.getElem_mem _)
  exact ⟨k, e, by rw [h.len]; exact hk⟩
theorem rowG_len {s : List Rule} {w : Word} (hs : sysErr s = 0) (hw : wordErr w = 0) (g : Gr) : (rowG s g w).length ≤ 54 := by
  unfold rowG NextR
  rw [List.length_map]
  have h1 := uniq_len ((movesM s w).map (·.word))
  have h2 := movesM_len hs hw
  rw [List.length_map] at h1
  omega

theorem leEls_app : ∀ {a b c d : List AV}, leEls a b → leEls c d → leEls (a ++ c) (b ++ d)
  | [], [], c, d, _, h => h
  | x :: a, y :: b, c, d, h, k => ⟨h.1, leEls_app h.2 k⟩
  | [], _ :: _, _, _, h, _ => h.elim
  | _ :: _, [], _, _, h, _ => h.elim
theorem nth_mid (a : List AV) (x : AV) (b : List AV) {i : Nat} (h : a.length = i) : nth (a ++ x :: b) i = x := by
  subst h
  simp [nth, List.getD_eq_getElem?_getD]
theorem set_mid (a : List AV) (x y : AV) (b : List AV) {i : Nat} (h : a.length = i) : (a ++ x :: b).set i y = a ++ y :: b := by
  subst h
  simp [List.set_append]
theorem refsL_words : ∀ l : List (List Int), AV.refsL (l.map ints) = []
  | [] => rfl
  | _ :: l => by simp [AV.refsL, AV.refs, refsL_words l]
theorem refsL_app (a b : List AV) : AV.refsL (a ++ b) = AV.refsL a ++ AV.refsL b := by
  induction a with
  | nil => rfl
  | cons x a ih => simp [AV.refsL, ih]
theorem refsL_rep (n : Nat) (a : AV) (h : a.refs = []) : AV.refsL (List.replicate n a) = [] := by
  induction n with
  | zero => rfl
  | succ n ih => simp [List.replicate_succ, AV.refsL, h, ih]
theorem frzL_words (b : Box) (id : Nat) : ∀ l : List (List Int), frzL b id (l.map ints) = l.map ints
  | [] => rfl
  | _ :: l => by simp [frzL, frzA, frzL_words b id l]
theorem frzL_rep (b : Box) (id n : Nat) (a : AV) (h : frzA b id a = a) : frzL b id (List.replicate n a) = List.replicate n a := by
  induction n with
  | zero => rfl
  | succ n ih => simp [List.replicate_succ, frzL, h, ih]
theorem refsL_seqs (n sz : Nat) (l : List AV) (b : Bool) : AV.refsL (List.replicate n (.seq sz l b)) = [] := refsL_rep n _ rfl
theorem frzL_seqs (b : Box) (id n sz : Nat) (l : List AV) (f : Bool) : frzL b id (List.replicate n (.seq sz l f)) = List.replicate n (.seq sz l f) := frzL_rep b id n _ (by simp [frzA])
def nilV : AV := .seq 1 [] true
/-- The rows of the words ahead. -/
def doneR (s : List Rule) (g : Gr) (i : Nat) : List AV := ((rowsG s g).take i).map ints
theorem doneR_len {s : List Rule} {g : Gr} {i : Nat} (h : i ≤ g.ws.length) : (doneR s g i).length = i := by
  simp [doneR, rowsG]; omega
theorem doneR_succ {s : List Rule} {g : Gr} {i : Nat} (h : i < g.ws.length) : doneR s g (i + 1) = doneR s g i ++ [ints (rowG s g (el g.ws i))] := by
  unfold doneR
  rw [take_succ _ i (by simpa [rowsG] using h), List.map_append]
  have : el (rowsG s g) i = rowG s g (el g.ws i) := el_mapG _ _ h
  rw [this]; rfl
theorem doneR_refs (s : List Rule) (g : Gr) (i : Nat) : AV.refsL (doneR s g i) = [] := refsL_words _
theorem doneR_frz (b : Box) (id : Nat) (s : List Rule) (g : Gr) (i : Nat) : frzL b id (doneR s g i) = doneR s g i := frzL_words b id _
def gIpt (s : List Rule) (g : Gr) : AV := .ipt (graphV s g) 0
/-- The loop over the words: the rows. -/
def rowsI (s : List Rule) (g : Gr) (i : Nat) : St :=
  ⟨[(39, iv i), (38, iv g.ws.length), (37, wordsV g.ws), (8, .sl 33 1 0 g.ws.length), (6, gIpt s g), (0, rulesV s)], [(33, some ⟨1, doneR s g i ++ List.replicate (g.ws.length - i) nilV, 1, true⟩)]⟩
def rowI (s : List Rule) (g : Gr) (i m : Nat) (N : List Word) (q v : Nat) : Bool → St
  | true => ⟨[(48, iv q), (47, iv N.length), (46, wordsV N), (9, iv i), (39, iv i), (38, iv g.ws.length), (37, wordsV g.ws), (8, .sl 33 1 0 g.ws.length), (6, gIpt s g), (0, rulesV s)], [(33, some ⟨1, doneR s g i ++ nilV :: List.replicate m nilV, 1, true⟩)]⟩
  | false => ⟨[(48, iv q), (47, iv N.length), (46, wordsV N), (9, iv i), (39, iv i), (38, iv g.ws.length), (37, wordsV g.ws), (8, .sl 33 1 0 g.ws.length), (6, gIpt s g), (0, rulesV s)], [(66, some ⟨1, ((N.take q).map fun x => (posW g.ws x : Int)).map iv, v, false⟩), (33, some ⟨1, doneR s g i ++ .sl 66 v 0 q :: List.replicate m nilV, 1, true⟩)]⟩
/-- The lists of what is reached. -/
noncomputable def partsL (rows : List (List Int)) (r : Nat) : List AV := (List.range r).map fun k => bools (cloB rows k)
theorem partsL_len (rows : List (List Int)) (r : Nat) : (partsL rows r).length = r := by simp [partsL]
theorem partsL_succ (rows : List (List Int)) (r : Nat) : partsL rows (r + 1) = partsL rows r ++ [bools (cloB rows r)] := by simp [partsL, List.range_succ]
theorem partsL_nth (rows : List (List Int)) (r k : Nat) (h : k < r) : nth (partsL rows r) k = bools (cloB rows k) := by simp [nth, partsL, List.getD_eq_getElem?_getD, h]
theorem isCalm_c (s : List Rule) (w : List Int) (h : Sys.small s) (hw : w.length ≤ 1000) (g : Gr) (h0 : swErr s w = 0) (hg : reachG s w = some g) : CallP Tryz.prog 28 [rulesV s, ints w] (.tup [bv (calmB (rowsG s g)), iv 0]) := by
  refine C28 (by simp) ?_
  have hrc := reached_c s w h hw
  have e1 : reachedV s w = reachV s (reachG s w) := by simp [reachedV, h0]
  rw [e1, hg] at hrc
  obtain ⟨z1, z2⟩ := swErr_zero h0
  have hok := reachG_ok h0 hg
  have hsh := shut_of hg
  have hnum := hok.num
  have hfor := rowsG_for hok hsh
  have hrng := rowsFor_rng hfor
  have hrl : (rowsG s g).length = g.ws.length := hfor.len
  have hff : ∀ x ∈ g.ws, fine x := fun x hx => fine_of (hok.fine x hx)
  have hrow : ∀ j, j < (rowsG s g).length → (el (rowsG s g) j).length ≤ 100 := by
    intro j hj
    have hj' : j < g.ws.length := by omega
    have := rowG_len z1 (hok.fine _ (el_mem_of g.ws j hj')) g
    have e : el (rowsG s g) j = rowG s g (el g.ws j) := el_mapG _ _ hj'
    rw [e]; omega
  have hclo := fun i hi => closure_c (rowsG s g) i (by omega) hi hrng hrow
  simp only [reachV] at hrc
  have hgi : AV.ipt (graphV s g) 0 = gIpt s g := rfl
  simp only [graphV] at hrc
  simp [A28]
  try simp 
  repeat' (first
    | (refine CallX.pure (hrc) (by simp) (by simp) ?_; try simp )
    | (refine CallK.intro (hrc) (by simp) (by simp) ?_; try simp )
    | (refine CallG.intro (fun _ => hrc) (by simp) (by simp) ?_; try simp )
    | ((with_reducible refine PreK.intro ?_ ?_); (next => (first | omega | (intros; first | omega | (refine ⟨by omega, ?_⟩; repeat (first | assumption | constructor)) | assumption))); intro _; try simp )
    | fail)
  refine CondK.intro (fun h1 => ?_) (fun h1 => ?_)
  · simp at h1
  · repeat (refine PreK.intro (by first | omega | (intros; first | omega | (refine ⟨by omega, ?_⟩; simp_all; done) | (simp_all; done) | (simp_all; omega))) fun _ => ?_; (try simp ))
    refine LoopK.byF (ι := Nat) (rowsI s g) (fun i => g.ws.length - i) (fun i => i ≤ g.ws.length) 0 (Nat.zero_le _) (by simp [rowsI, doneR, gIpt, graphV, nilV, leEls_refl, refsL_seqs]) ?_
    intro i Q' hi hq he hr hfz
    simp only [rowsI, gIpt, graphV]
    try simp 
    refine CondK.intro (fun h2 => ?_) (fun h2 => ?_)
    · simp at h2
      have hu := hok.fine _ (el_mem_of g.ws i h2)
      have hnc := next_c s (el g.ws i) h z1 hu
      have hmem := fun x hx => next_in (x := x) hsh h2 hx
      have hrg : rowG s g (el g.ws i) = (NextR s (el g.ws i)).map fun v => (posW g.ws v : Int) := rfl
      have hN54 := rowG_len z1 hu g
      rw [hrg, List.length_map] at hN54
      have hds := doneR_succ (s := s) (g := g) h2
      rw [hrg] at hds
      generalize NextR s (el g.ws i) = N at hnc hmem hN54 hds
      obtain ⟨m, hm⟩ : ∃ m, g.ws.length - i = m + 1 := ⟨g.ws.length - i - 1, by omega⟩
      have hm2 : g.ws.length - (i + 1) = m := by omega
      have hdl := doneR_len (s := s) (g := g) (i := i) (by omega)
      rw [hm, List.replicate_succ]
      repeat (refine PreK.intro (by first | omega | (intros; first | omega | (refine ⟨by omega, ?_⟩; simp_all; done) | (simp_all; done) | (simp_all; omega))) fun _ => ?_; (try simp [h2]))
      try simp [h2]
      repeat' (first
        | (refine CallX.pure (hnc) (by simp) (by simp) ?_; try simp [h2])
        | (refine CallK.intro (hnc) (by simp) (by simp) ?_; try simp [h2])
        | (refine CallG.intro (fun _ => hnc) (by simp) (by simp) ?_; try simp [h2])
        | ((with_reducible refine PreK.intro ?_ ?_); (next => (first | omega | (intros; first | omega | (refine ⟨by omega, ?_⟩; repeat (first | assumption | constructor)) | assumption))); intro _; try simp [h2])
        | fail)
      refine LoopK.by (ι := Bool × Nat × Nat) (fun x => rowI s g i m N x.2.1 x.2.2 x.1) (fun x => N.length - x.2.1) (fun x => x.2.1 ≤ N.length ∧ (decide (x.2.1 = 0) = x.1)) (true, 0, 0) ⟨Nat.zero_le _, rfl⟩ (by simp [rowI, gIpt, graphV, refsL_app, doneR_refs, AV.refsL, refsL_seqs, nilV, AV.refs]) ?_
      intro ⟨kd, q, v⟩ Q2 ⟨hq', hk⟩ hq2 he2 hr2
      dsimp only at hq' hk
      by_cases h3 : q < N.length
      · have hxm := hmem (el N q) (el_mem_of N q h3)
        obtain ⟨p1, p2, p3⟩ := posW_spec hff hxm
        have hkc := key_c (el N q) (by have := (wordErr_zero (hok.fine _ hxm)).1; omega) (hff _ hxm)
        have hqs : N.take (q + 1) = N.take q ++ [el N q] := take_succ N q h3
        cases kd
        · have hq0 : ¬ q = 0 := by simpa using hk
          have hnm := nth_mid (doneR s g i) (.sl 66 v 0 q) (List.replicate m nilV) hdl
          have hsm := fun y => set_mid (doneR s g i) (.sl 66 v 0 q) y (List.replicate m nilV) hdl
          have hxl : ((N.take q).map fun x => (posW g.ws x : Int)).length = q := by simp; omega
          simp only [rowI, gIpt, graphV]
          generalize hX : (N.take q).map (fun x => (posW g.ws x : Int)) = X at hxl
          try simp [h3]
          repeat (refine PreK.intro (by first | omega | (intros; first | omega | (refine ⟨by omega, ?_⟩; simp_all; done) | (simp_all; done) | (simp_all; omega))) fun _ => ?_; (try simp [h3]))
          refine CondK.tt ?_
          try simp 
          try simp [h3]
          repeat (refine PreK.intro (by first | omega | (intros; first | omega | (refine ⟨by omega, ?_⟩; simp_all; done) | (simp_all; done) | (simp_all; omega))) fun _ => ?_; (try simp [h3]))
          refine CallK.intro (by simpa using hkc) (by simp) (by simp) ?_
          try simp [p3, keysOK_ents, hnm, hsm, hxl]
          repeat (refine PreK.intro (by first | omega | (intros; first | omega | (refine ⟨by omega, ?_⟩; simp_all; done) | (simp_all; done) | (simp_all; omega))) fun _ => ?_; (try simp [p3, keysOK_ents, hnm, hsm, hxl]))
          refine hq2 (false, q + 1, v + 1) _ ⟨by dsimp only; omega, by simp⟩ (by dsimp only; omega) ?_
          have htk : List.take q (X.map iv) = X.map iv := List.take_of_length_le (by simp [hxl])
          simp [rowI, gIpt, graphV, hqs, hX, hxl, htk, refsL_app, doneR_refs, AV.refsL, AV.refs, refsL_seqs, nilV]
        · have hq0 : q = 0 := by simpa using hk
          subst hq0
          have hnm := nth_mid (doneR s g i) nilV (List.replicate m nilV) hdl
          have hsm := fun y => set_mid (doneR s g i) nilV y (List.replicate m nilV) hdl
          simp only [nilV] at hnm hsm
          simp only [rowI, gIpt, graphV, nilV]
          try simp [h3]
          repeat (refine PreK.intro (by first | omega | (intros; first | omega | (refine ⟨by omega, ?_⟩; simp_all; done) | (simp_all; done) | (simp_all; omega))) fun _ => ?_; (try simp [h3]))
          refine CondK.tt ?_
          try simp 
          try simp [h3, hnm, hsm]
          repeat (refine PreK.intro (by first | omega | (intros; first | omega | (refine ⟨by omega, ?_⟩; simp_all; done) | (simp_all; done) | (simp_all; omega))) fun _ => ?_; (try simp [h3, hnm, hsm]))
          refine CallK.intro (by simpa using hkc) (by simp) (by simp) ?_
          try simp [p3, keysOK_ents, hnm, hsm]
          repeat (refine PreK.intro (by first | omega | (intros; first | omega | (refine ⟨by omega, ?_⟩; simp_all; done) | (simp_all; done) | (simp_all; omega))) fun _ => ?_; (try simp [p3, keysOK_ents, hnm, hsm]))
          refine hq2 (false, 1, 1) _ ⟨by dsimp only; omega, by simp⟩ (by dsimp only; omega) ?_
          simp [rowI, gIpt, graphV, hqs, refsL_app, doneR_refs, AV.refsL, AV.refs, refsL_seqs, nilV]
      · have hqe : q = N.length := by omega
        subst hqe
        cases kd
        · simp only [rowI, gIpt, graphV]
          try simp 
          repeat (refine PreK.intro (by first | omega | (intros; first | omega | (refine ⟨by omega, ?_⟩; simp_all; done) | (simp_all; done) | (simp_all; omega))) fun _ => ?_; (try simp ))
          refine CondK.ff ?_
          try simp 
          try simp 
          apply he2
          try simp 
          repeat (refine PreK.intro (by first | omega | (intros; first | omega | (refine ⟨by omega, ?_⟩; simp_all; done) | (simp_all; done) | (simp_all; omega))) fun _ => ?_; (try simp ))
          have hxl : ((N.take N.length).map fun x => (posW g.ws x : Int)).length = N.length := by simp
          refine hfz 66 ⟨1, ((N.take N.length).map fun x => (posW g.ws x : Int)).map iv, v, false⟩ _ (by simp) (by simp) ?_
          refine hq (i + 1) _ (by omega) (by omega) ?_
          simp [rowsI, gIpt, graphV, hds, hm2, nilV, refsL_app, doneR_refs, AV.refsL, AV.refs, refsL_seqs, frzL_append, doneR_frz, frzL_seqs, leEls_refl]
        · have hN0 : N = [] := List.eq_nil_of_length_eq_zero (by simpa using hk)
          subst hN0
          simp only [rowI, gIpt, graphV, nilV]
          try simp 
          repeat (refine PreK.intro (by first | omega | (intros; first | omega | (refine ⟨by omega, ?_⟩; simp_all; done) | (simp_all; done) | (simp_all; omega))) fun _ => ?_; (try simp ))
          refine CondK.ff ?_
          try simp 
          try simp 
          apply he2
          try simp 
          repeat (refine PreK.intro (by first | omega | (intros; first | omega | (refine ⟨by omega, ?_⟩; simp_all; done) | (simp_all; done) | (simp_all; omega))) fun _ => ?_; (try simp ))
          refine hq (i + 1) _ (by omega) (by omega) ?_
          simp [rowsI, gIpt, graphV, hds, hm2, nilV, refsL_app, doneR_refs, AV.refsL, AV.refs, refsL_seqs]
          exact leEls_app (leEls_refl _) ⟨by simp [leE], leEls_refl _⟩
    · simp at h2
      have hie : i = g.ws.length := by omega
      subst hie
      have hdn : doneR s g g.ws.length = (rowsG s g).map ints := by unfold doneR; rw [List.take_of_length_le (by omega)]
      have hdl := doneR_len (s := s) (g := g) (Nat.le_refl g.ws.length)
      rw [Nat.sub_self, List.replicate_zero, List.append_nil]
      try simp 
      apply he
      try simp [hdl]
      repeat (refine PreK.intro (by first | omega | (intros; first | omega | (refine ⟨by omega, ?_⟩; simp_all; done) | (simp_all; done) | (simp_all; omega))) fun _ => ?_; (try simp [hdl]))
      refine LoopK.frz 33 (b := ⟨1, doneR s g g.ws.length, 1, true⟩) (by simp) (by simp [doneR_refs]) ?_
      rw [hdn]
      have hrw1 : ((rowsG s g).map ints).length = g.ws.length := by simp [hrl]
      generalize hrows : rowsG s g = rows at *
      have htk : List.take g.ws.length (rows.map ints) = rows.map ints := List.take_of_length_le (by simp [hrl])
      generalize hC : calmB rows = C
      have hfz0 := frzL_words ⟨1, rows.map ints, 1, true⟩ 33 rows
      refine LoopK.by (ι := Nat) (fun r => ⟨[(78, iv r), (77, iv g.ws.length), (13, .sl 75 1 0 g.ws.length), (8, wordsV rows)], [(75, some ⟨1, partsL rows r ++ List.replicate (g.ws.length - r) nilV, 1, false⟩)]⟩) (fun r => g.ws.length - r) (fun r => r ≤ g.ws.length) 0 (Nat.zero_le _) (by simp [nilV, partsL, hrl, htk]) ?_
      intro r Q2 hr' hq2 he2 hr2
      try simp 
      refine CondK.intro (fun h3 => ?_) (fun h3 => ?_)
      · simp at h3
        have hcl := hclo r (by omega)
        obtain ⟨m, hm⟩ : ∃ m, g.ws.length - r = m + 1 := ⟨g.ws.length - r - 1, by omega⟩
        have hm2 : g.ws.length - (r + 1) = m := by omega
        have hpl := partsL_len rows r
        have hnm := nth_mid (partsL rows r) nilV (List.replicate m nilV) hpl
        have hsm := fun y => set_mid (partsL rows r) nilV y (List.replicate m nilV) hpl
        rw [hm, List.replicate_succ]
        simp only [nilV] at hnm hsm ⊢
        try simp [h3, hrl]
        repeat (refine PreK.intro (by first | omega | (intros; first | omega | (refine ⟨by omega, ?_⟩; simp_all; done) | (simp_all; done) | (simp_all; omega))) fun _ => ?_; (try simp [h3, hrl]))
        refine CallX.pure (by simpa using hcl) (by simp) (by simp) ?_
        try simp [h3, hnm, hsm, hpl, hrl]
        repeat (refine PreK.intro (by first | omega | (intros; first | omega | (refine ⟨by omega, ?_⟩; simp_all; done) | (simp_all; done) | (simp_all; omega))) fun _ => ?_; (try simp [h3, hnm, hsm, hpl, hrl]))
        refine hq2 (r + 1) _ (by omega) (by omega) ?_
        simp [partsL_succ, hm2, nilV]
      · simp at h3
        have hre : r = g.ws.length := by omega
        subst hre
        have hpl := partsL_len rows g.ws.length
        have hpt : List.take g.ws.length (partsL rows g.ws.length) = partsL rows g.ws.length := List.take_of_length_le (by omega)
        rw [Nat.sub_self, List.replicate_zero, List.append_nil]
        try simp 
        apply he2
        try simp [hrl, hpl]
        repeat (refine PreK.intro (by first | omega | (intros; first | omega | (refine ⟨by omega, ?_⟩; simp_all; done) | (simp_all; done) | (simp_all; omega))) fun _ => ?_; (try simp [hrl, hpl]))
        refine LoopK.frz 75 (b := ⟨1, partsL rows g.ws.length, 1, false⟩) (by simp) (by simp) ?_
        refine LoopK.by (ι := Nat) (fun r => ⟨[(90, iv r), (89, iv g.ws.length), (88, wordsV rows), (13, .seq 1 (partsL rows g.ws.length) false)], []⟩) (fun r => g.ws.length - r) (fun r => r ≤ g.ws.length ∧ ∀ r', r' < r → ∀ i, i < (el rows r').length → ∀ k, k < i → commonB (cloB rows (el (el rows r') i).toNat) (cloB rows (el (el rows r') k).toNat) = true)
          0 ⟨Nat.zero_le _, fun r' h => absurd h (Nat.not_lt_zero _)⟩ (by simp [hrl, hpl, hpt]) ?_
        intro r Q3 ⟨hr3, hall⟩ hq3 he3 hr4
        try simp 
        refine CondK.intro (fun h4 => ?_) (fun h4 => ?_)
        · simp at h4
          have h4r : r < rows.length := by omega
          have hrr := hrng r h4r
          have hrl2 := hrow r h4r
          try simp [h4, h4r]
          repeat (refine PreK.intro (by first | omega | (intros; first | omega | (refine ⟨by omega, ?_⟩; simp_all; done) | (simp_all; done) | (simp_all; omega))) fun _ => ?_; (try simp [h4, h4r]))
          generalize hrw : el rows r = row at hrr hrl2
          try simp [h4, h4r, hrw]
          repeat (refine PreK.intro (by first | omega | (intros; first | omega | (refine ⟨by omega, ?_⟩; simp_all; done) | (simp_all; done) | (simp_all; omega))) fun _ => ?_; (try simp [h4, h4r, hrw]))
          refine LoopK.by (ι := Nat) (fun i => ⟨[(96, iv i), (95, iv row.length), (16, ints row), (90, iv r), (89, iv g.ws.length), (88, wordsV rows), (13, .seq 1 (partsL rows g.ws.length) false)], []⟩) (fun i => row.length - i) (fun i => i ≤ row.length ∧ ∀ i', i' < i → ∀ k, k < i' → commonB (cloB rows (el row i').toNat) (cloB rows (el row k).toNat) = true)
            0 ⟨Nat.zero_le _, fun r' h => absurd h (Nat.not_lt_zero _)⟩ (by simp) ?_
          intro i Q4 ⟨hi4, hall4⟩ hq4 he4 hr5
          try simp 
          refine CondK.intro (fun h5 => ?_) (fun h5 => ?_)
          · simp at h5
            try simp [h5]
            repeat (refine PreK.intro (by first | omega | (intros; first | omega | (refine ⟨by omega, ?_⟩; simp_all; done) | (simp_all; done) | (simp_all; omega))) fun _ => ?_; (try simp [h5]))
            refine LoopK.by (ι := Nat) (fun k => ⟨[(100, iv k), (99, iv i), (17, iv i), (96, iv i), (95, iv row.length), (16, ints row), (90, iv r), (89, iv g.ws.length), (88, wordsV rows), (13, .seq 1 (partsL rows g.ws.length) false)], []⟩) (fun k => i - k) (fun k => k ≤ i ∧ ∀ k', k' < k → commonB (cloB rows (el row i).toNat) (cloB rows (el row k').toNat) = true)
              0 ⟨Nat.zero_le _, fun r' h => absurd h (Nat.not_lt_zero _)⟩ (by simp) ?_
            intro k Q5 ⟨hk5, hall5⟩ hq5 he5 hr6
            try simp 
            refine CondK.intro (fun h6 => ?_) (fun h6 => ?_)
            · simp at h6
              have hk6 : k < row.length := by omega
              obtain ⟨a, ea, ha⟩ := hrr i h5
              obtain ⟨b, eb, hb⟩ := hrr k hk6
              have a0 : (0 : Int) ≤ el row i := by omega
              have a1 : (el row i).toNat = a := by omega
              have a2 : el row i < (g.ws.length : Int) := by omega
              have b0 : (0 : Int) ≤ el row k := by omega
              have b1 : (el row k).toNat = b := by omega
              have b2 : el row k < (g.ws.length : Int) := by omega
              have pa := partsL_nth rows g.ws.length a (by omega)
              have pb := partsL_nth rows g.ws.length b (by omega)
              simp only [bools] at pa pb
              have hcm := common_c (cloB rows a) (cloB rows b) (by rw [cloB_len]; omega) (by rw [cloB_len, cloB_len])
              have hca : a < g.ws.length := by omega
              have hcb : b < g.ws.length := by omega
              try simp [h5, hk6, a0, a1, a2, b0, b1, b2, pa, pb, hpl, hca, hcb]
              repeat (refine PreK.intro (by first | omega | (intros; first | omega | (refine ⟨by omega, ?_⟩; simp_all; done) | (simp_all; done) | (simp_all; omega))) fun _ => ?_; (try simp [h5, hk6, a0, a1, a2, b0, b1, b2, pa, pb, hpl, hca, hcb]))
              refine CallK.intro (by simpa using hcm) (by simp) (by simp) ?_
              try simp 
              repeat (refine PreK.intro (by first | omega | (intros; first | omega | (refine ⟨by omega, ?_⟩; simp_all; done) | (simp_all; done) | (simp_all; omega))) fun _ => ?_; (try simp ))
              refine CondK.intro (fun h7 => ?_) (fun h7 => ?_)
              · have hf : commonB (cloB rows a) (cloB rows b) = false := by (try simp at h7); simpa using h7
                have hno : C = false := hC ▸ calm_not (r := r) (i := i) (k := k) h4r (by rw [hrw]; exact h5) h6 (by rw [hrw, a1, b1]; exact hf)
                subst hno
                try simp 
                apply hr6
                try simp 
                apply hr5
                try simp 
                apply hr4
                try simp 
              · have hf : commonB (cloB rows a) (cloB rows b) = true := by (try simp at h7); simpa using h7
                try simp 
                repeat (refine PreK.intro (by first | omega | (intros; first | omega | (refine ⟨by omega, ?_⟩; simp_all; done) | (simp_all; done) | (simp_all; omega))) fun _ => ?_; (try simp ))
                refine hq5 (k + 1) _ ⟨by omega, fun k' hk' => ?_⟩ (by omega) (by simp)
                by_cases e : k' = k
                · subst e; rw [a1, b1]; exact hf
                · exact hall5 k' (by omega)
            · simp at h6
              have hke : k = i := by omega
              subst hke
              try simp 
              apply he5
              try simp 
              repeat (refine PreK.intro (by first | omega | (intros; first | omega | (refine ⟨by omega, ?_⟩; simp_all; done) | (simp_all; done) | (simp_all; omega))) fun _ => ?_; (try simp ))
              refine hq4 (k + 1) _ ⟨by omega, fun i' hi' => ?_⟩ (by omega) (by simp)
              by_cases e : i' = k
              · subst e; exact hall5
              · exact hall4 i' (by omega)
          · simp at h5
            have hie : i = row.length := by omega
            subst hie
            try simp 
            apply he4
            try simp 
            repeat (refine PreK.intro (by first | omega | (intros; first | omega | (refine ⟨by omega, ?_⟩; simp_all; done) | (simp_all; done) | (simp_all; omega))) fun _ => ?_; (try simp ))
            refine hq3 (r + 1) _ ⟨by omega, fun r' hr' => ?_⟩ (by omega) (by simp)
            by_cases e : r' = r
            · subst e; rw [hrw]; exact hall4
            · exact hall r' (by omega)
        · simp at h4
          have hre : r = g.ws.length := by omega
          subst hre
          have hyes : C = true := hC ▸ calm_all.2 fun r hr i hi k hk => hall r (by omega) i hi k hk
          subst hyes
          try simp 
          apply he3
          try simp 
          repeat (refine PreK.intro (by first | omega | (intros; first | omega | (refine ⟨by omega, ?_⟩; simp_all; done) | (simp_all; done) | (simp_all; omega))) fun _ => ?_; (try simp ))
end Go.Proofs.YtkhddecnllcaiaaGreat
end

section
/- Contracts: the reference's Reach; the statement FeedReaches. -/
namespace Go.Proofs.YtkhddecnllcaiaaGreat
open Go.Abs Go
set_option maxRecDepth 20000
set_option maxHeartbeats 2000000
attribute [local irreducible] PreK CondK CallK CallG CallX LoopK
attribute [local simp] avsEq avEq akind teq vkind vEq

theorem rcloseG_ok {s : List Rule} (hs : sysErr s = 0) : ∀ {n i : Nat} {g g' : RG}, g.ok → i ≤ g.ws.length → rcloseG s n i g = some g' → g'.ok
  | 0, i, g, g', h, _, e => by
    simp only [rcloseG, Option.some.injEq] at e
    subst e; exact h
  | n + 1, i, g, g', h, hi, e => by
    rw [rcloseG] at e
    split at e
    · rename_i hi2
      have hu := h.fine _ (el_mem_of g.ws i hi2)
      have hm : ∀ x ∈ nxR s (el g.ws i), wordErr x = 0 := by
        intro x hx
        obtain ⟨m, hm, rfl⟩ := List.mem_map.1 (mem_nxR.1 hx)
        exact moves_right hs hu hm
      have key : ∀ (l : List Word) (ws : List Word) (fr ls : List Int) (nx : List (List Int)) (q : List Word × List Int × List Int), (∀ x ∈ l, wordErr x = 0) → RG.ok ⟨ws, nx, fr⟩ → i < ws.length → el fr i = el g.far i →
          raddG (el g.far i + 1) ws fr ls l = some q → RG.ok ⟨q.1, nx, q.2.1⟩ ∧ i < q.1.length := by
        intro l
        induction l with
        | nil =>
          intro ws fr ls nx q _ hok hi3 _ hq
          simp only [raddG, Option.some.injEq] at hq
          subst hq; exact ⟨hok, hi3⟩
        | cons v l ih =>
          intro ws fr ls nx q hl hok hi3 hfi hq
          rw [raddG] at hq
          split at hq
          · split at hq
            · cases hq
            · rename_i h3
              have hnum := hok.num
              dsimp only at hnum
              have hp := hok.push (w := v) (i := i) (hl v (by simp)) (by dsimp only; omega) hi3
              dsimp only at hp
              rw [hfi] at hp
              refine ih _ _ _ nx q (fun x hx => hl x (by simp [hx])) hp (by simp; omega) ?_ hq
              rw [el_app_left _ _ (by have := hok.far; dsimp only at this; omega)]
              exact hfi
          · exact ih _ _ _ nx q (fun x hx => hl x (by simp [hx])) hok hi3 hfi hq
      cases ha : raddG (el g.far i + 1) g.ws g.far [] (nxR s (el g.ws i)) with
      | none => rw [ha] at e; cases e
      | some q =>
        obtain ⟨q1, q2, q3⟩ := q
        rw [ha] at e
        obtain ⟨k1, k2⟩ := key _ _ _ _ g.nx _ hm ⟨h.fine, h.num, h.far, h.low⟩ hi2 rfl ha
        exact rcloseG_ok (g := ⟨q1, g.nx ++ [q3], q2⟩) hs ⟨k1.fine, k1.num, k1.far, k1.low⟩ (by dsimp only at k2 ⊢; omega) e
    · simp only [Option.some.injEq] at e
      subst e; exact h
theorem rreachG_ok {s : List Rule} {w : Word} {g : RG} (h : swErr s w = 0) (e : rreachG s w = some g) : g.ok := by
  refine rcloseG_ok (swErr_zero h).1 ⟨by simpa using (swErr_zero h).2, by simp, rfl, fun j hj => ?_⟩ (Nat.zero_le _) e
  simp at hj
  subst hj
  simp [el]
def rgraphedV (s : List Rule) (w : Word) : AV := if swErr s w ≠ 0 then .tup [rzeroV, iv (swErr s w)] else match rreachG s w with
  | none => .tup [rzeroV, iv 3]
  | some g => .tup [rgraphV g, iv 0]
theorem graphed_c (s : List Rule) (w : List Int) (h : Sys.small s) (hw : w.length ≤ 1000) : CallP Tryz.prog 37 [rulesV s, ints w] (rgraphedV s w) := by
  refine C37 (by simp) ?_
  have hck := rworded_c s w [] h hw (by simp)
  rw [check_nil] at hck
  simp [A37]
  try simp 
  repeat' (first
    | (refine CallX.pure (hck) (by simp) (by simp) ?_; try simp )
    | (refine CallK.intro (hck) (by simp) (by simp) ?_; try simp )
    | (refine CallG.intro (fun _ => hck) (by simp) (by simp) ?_; try simp )
    | ((with_reducible refine PreK.intro ?_ ?_); (next => (first | omega | (intros; first | omega | (refine ⟨by omega, ?_⟩; repeat (first | assumption | constructor)) | assumption))); intro _; try simp )
    | fail)
  refine CondK.intro (fun h1 => ?_) (fun h1 => ?_)
  · simp at h1
    simp [rgraphedV, h1, rzeroV]
  · simp at h1
    have hx := reached_x s w h (swErr_zero h1).1 (swErr_zero h1).2
    have e : rgraphedV s w = match rreachG s w with | none => .tup [rzeroV, iv 3] | some g => .tup [rgraphV g, iv 0] := by simp [rgraphedV, h1]
    rw [e]
    cases hg : rreachG s w with
    | none =>
      rw [hg] at hx
      simp only [rreachV, rzeroV] at hx ⊢
      try simp 
      repeat' (first
        | (refine CallX.pure (hx) (by simp) (by simp) ?_; try simp )
        | (refine CallK.intro (hx) (by simp) (by simp) ?_; try simp )
        | (refine CallG.intro (fun _ => hx) (by simp) (by simp) ?_; try simp )
        | ((with_reducible refine PreK.intro ?_ ?_); (next => (first | omega | (intros; first | omega | (refine ⟨by omega, ?_⟩; repeat (first | assumption | constructor)) | assumption))); intro _; try simp )
        | fail)
      refine CondK.intro (fun h2 => ?_) (fun h2 => ?_)
      · try simp 
        repeat' (first
          | ((with_reducible refine PreK.intro ?_ ?_); (next => (first | omega | (intros; first | omega | (refine ⟨by omega, ?_⟩; repeat (first | assumption | constructor)) | assumption))); intro _; try simp )
          | fail)
      · simp at h2
    | some g =>
      rw [hg] at hx
      simp only [rreachV, rgraphV] at hx ⊢
      try simp 
      repeat' (first
        | (refine CallX.pure (hx) (by simp) (by simp) ?_; try simp )
        | (refine CallK.intro (hx) (by simp) (by simp) ?_; try simp )
        | (refine CallG.intro (fun _ => hx) (by simp) (by simp) ?_; try simp )
        | ((with_reducible refine PreK.intro ?_ ?_); (next => (first | omega | (intros; first | omega | (refine ⟨by omega, ?_⟩; repeat (first | assumption | constructor)) | assumption))); intro _; try simp )
        | fail)
      refine CondK.intro (fun h2 => ?_) (fun h2 => ?_)
      · simp at h2
      · try simp 
        repeat' (first
          | ((with_reducible refine PreK.intro ?_ ?_); (next => (first | omega | (intros; first | omega | (refine ⟨by omega, ?_⟩; repeat (first | assumption | constructor)) | assumption))); intro _; try simp )
          | fail)
end Go.Proofs.YtkhddecnllcaiaaGreat
end

section
/- Plain: the reference's longest walk, found in rounds over the edges of its graph. -/
namespace Go.Proofs.YtkhddecnllcaiaaGreat
open Go.Abs Go

def rowE (i : Nat) (l : List Int) : List (Nat × Nat) := l.map fun j => (i, j.toNat)
def edgesF : Nat → List (List Int) → List (Nat × Nat)
  | _, [] => []
  | i, l :: r => rowE i l ++ edgesF (i + 1) r
theorem edgesF_mem : ∀ {r : List (List Int)} {i : Nat} {e : Nat × Nat}, e ∈ edgesF i r ↔ ∃ j, j < r.length ∧ e.1 = i + j ∧ ∃ x ∈ el r j, e.2 = x.toNat
  | [], i, e => by simp [edgesF]
  | l :: r, i, e => by
    rw [edgesF, List.mem_append, edgesF_mem]
    constructor
    · rintro (h | ⟨j, h1, h2, x, h3, h4⟩)
      · obtain ⟨x, hx, rfl⟩ := List.mem_map.1 h
        exact ⟨0, by simp, rfl, x, by simpa [el] using hx, rfl⟩
      · exact ⟨j + 1, by simpa using h1, by omega, x, by simpa [el] using h3, h4⟩
    · rintro ⟨j, h1, h2, x, h3, h4⟩
      cases j with
      | zero =>
        left
        refine List.mem_map.2 ⟨x, by simpa [el] using h3, ?_⟩
        apply Prod.ext
        · simp [h2]
        · exact h4.symm
      | succ j => exact .inr ⟨j, by simpa using h1, by omega, x, by simpa [el] using h3, h4⟩
theorem edgesF_len {M : Nat} : ∀ {r : List (List Int)} {i : Nat}, (∀ l ∈ r, l.length ≤ M) → (edgesF i r).length ≤ r.length * M
  | [], i, _ => by simp [edgesF]
  | l :: r, i, h => by
    have h1 := h l (by simp)
    have h2 := edgesF_len (r := r) (i := i + 1) (M := M) fun x hx => h x (by simp [hx])
    simp only [edgesF, rowE, List.length_append, List.length_map, List.length_cons, Nat.succ_mul]
    omega
/-- All are between zero and a bound. -/
def inB (o : List Int) (M : Int) : Prop := ∀ i, 0 ≤ el o i ∧ el o i ≤ M
theorem relM_inB {o : List Int} {b : Int} {c : Bool} {e : Nat × Nat} {M : Int} (h : inB o M) (hl : e.2 < o.length) : inB (relM (o, b, c) e).1 (M + 1) := by
  intro i
  unfold relM
  split
  · show 0 ≤ el (o.set e.2 (el o e.1 + 1)) i ∧ el (o.set e.2 (el o e.1 + 1)) i ≤ M + 1
    rw [el_setG _ _ _ _ hl]
    have h1 := h e.1
    have h2 := h i
    split <;> omega
  · have := h i
    exact ⟨this.1, Int.le_trans this.2 (by omega)⟩
def rLongestG (g : RG) : Int × Bool := match relN (edgesF 0 g.nx) (g.ws.length + 1) (List.replicate g.ws.length 0) 0 with
  | some m => (m, true)
  | none => (0, false)
theorem rclosed {s : List Rule} {w : Word} {g : RG} (h : rreachG s w = some g) : AllOK (nxR s) w g.ws ∧ EdgesOK (nxR s) g.ws (edgesF 0 g.nx) ∧ g.nx.length = g.ws.length ∧ (∀ j, j < g.ws.length → atsOf g.ws (el g.nx j) (nxR s (el g.ws j))) := by
  have h1 := rreachG_F s w
  rw [h] at h1
  cases hc : closeM (nxR s) w with
  | none => rw [hc] at h1; exact h1.elim
  | some ws =>
    rw [hc] at h1
    obtain ⟨hd, _⟩ := h1
    have hcl := closeM_some hc
    have hlen : g.ws.length = ws.length := by rw [hd.words]; simp
    have hall : ∀ n x, ReachN (nxR s) w n x → x ∈ g.ws := fun n x hx => by
      obtain ⟨z, hz, e, _⟩ := hcl.all n x hx
      rw [hd.words]
      exact List.mem_map.2 ⟨z, hz, e⟩
    have hats : ∀ j, j < g.ws.length → atsOf g.ws (el g.nx j) (nxR s (el g.ws j)) := fun j hj => hd.nx j (by omega)
    refine ⟨⟨hall 0 w .zero, fun x hx => ?_, hall⟩, ⟨fun e he => ?_, fun i hi x hx => ?_⟩, by rw [hd.num, hlen], hats⟩
    · rw [hd.words] at hx
      obtain ⟨y, hy, rfl⟩ := List.mem_map.1 hx
      exact ⟨_, hcl.reach y hy⟩
    · obtain ⟨j, h1, h2, x, h3, h4⟩ := edgesF_mem.1 he
      have hj : j < g.ws.length := by rw [hd.num] at h1; omega
      obtain ⟨a1, a2⟩ := hats j hj
      obtain ⟨q, hq, rfl⟩ := List.getElem_of_mem h3
      obtain ⟨k, k1, k2, k3⟩ := a2 q (by omega)
      rw [el_eq _ q hq] at k1
      have e1 : e.1 = j := by omega
      have e2 : e.2 = k := by omega
      rw [e1, e2]
      refine ⟨hj, k2, ?_⟩
      rw [k3]
      exact el_mem_of _ q (by omega)
    · obtain ⟨a1, a2⟩ := hats i hi
      obtain ⟨q, hq, rfl⟩ := List.getElem_of_mem hx
      obtain ⟨k, k1, k2, k3⟩ := a2 q hq
      refine ⟨k, edgesF_mem.2 ⟨i, by rw [hd.num]; omega, by simp, el (el g.nx i) q, el_mem_of _ q (by omega), by omega⟩, ?_⟩
      rw [k3, el_eq _ q hq]
theorem rlongestG_spec {s : List Rule} {w : Word} {g : RG} (h : rreachG s w = some g) : LongR (nxP s) w (rLongestG g).1 (rLongestG g).2 := by
  obtain ⟨ha, he, _, _⟩ := rclosed h
  have hel : ∀ k, el (List.replicate g.ws.length (0 : Int)) k = 0 := by
    intro k
    by_cases hk : k < g.ws.length
    · rw [el_eq _ _ (by simpa using hk)]; simp
    · unfold el
      rw [List.getD_eq_getElem?_getD, List.getElem?_eq_none (by simp; omega)]; rfl
  have hr := relN_spec ha he (g.ws.length + 1) 0 (List.replicate g.ws.length 0) 0 (by omega)
    ⟨by simp, fun i hi => ⟨0, hel i, _, el_mem_of g.ws i hi, .zero⟩, fun i hi => by rw [hel]; omega, .inl rfl, by omega⟩
    (fun e _ => .inr (by rw [hel]; omega)) (.inl rfl)
  unfold rLongestG
  cases hn : relN (edgesF 0 g.nx) (g.ws.length + 1) (List.replicate g.ws.length 0) 0 with
  | some m => rw [hn] at hr; exact hr.congr fun v x => mem_nxR
  | none => rw [hn] at hr; exact hr.congr fun v x => mem_nxR
end Go.Proofs.YtkhddecnllcaiaaGreat
end

section
/- Functions of the cut as the value layer reads them. (written by gen.py) -/
set_option maxRecDepth 20000
namespace Go.Proofs.YtkhddecnllcaiaaGreat
open Go.Abs Go

def A70 : ACode :=
  (.seq (.reg [] [⟨some 1, (.box 53 (.tmp 0)), 0, none⟩,
      ⟨some 2, (.assign (.const (.int .i64 0))), 3, none⟩,
      ⟨some 3, (.assign (.const (.bool false))), 4, none⟩])
    (.seq (.reg [] [⟨some 11, (.fieldAddr 53 (.tmp 1) 0), 0, none⟩,
      ⟨some 12, (.load 27 (.tmp 11)), 27, none⟩,
      ⟨some 13, (.call ⟨(.builtin .len), #[(.tmp 12)], #[27]⟩), 3, none⟩,
      ⟨some 14, (.makeSlice 23 (.tmp 13) (.tmp 13)), 23, none⟩,
      ⟨some 4, (.assign (.tmp 14)), 23, none⟩])
    (.seq (.reg [] [⟨some 5, (.assign (.const (.int .i64 0))), 3, none⟩])
    (.seq (.seq (.reg [] [⟨some 6, (.assign (.const (.int .i64 0))), 3, none⟩])
    (.block 0 (.loop (.seq (.seq (.reg [] [⟨some 15, (.move (.tmp 6)), 3, none⟩,
      ⟨some 16, (.fieldAddr 53 (.tmp 1) 0), 0, none⟩,
      ⟨some 17, (.load 27 (.tmp 16)), 27, none⟩,
      ⟨some 18, (.call ⟨(.builtin .len), #[(.tmp 17)], #[27]⟩), 3, none⟩,
      ⟨some 19, (.binOp .leq 3 (.tmp 15) (.tmp 18) 3), 4, none⟩])
    (.cond (.tmp 19)
    .skip
    (.exit 0)))
    (.seq (.block 1 (.seq (.reg [] [⟨some 7, (.assign (.const (.bool false))), 4, none⟩])
    (.seq (.seq (.reg [] [⟨some 8, (.assign (.const (.int .i64 0))), 3, none⟩])
    (.block 2 (.loop (.seq (.seq (.reg [] [⟨some 22, (.move (.tmp 8)), 3, none⟩,
      ⟨some 23, (.fieldAddr 53 (.tmp 1) 0), 0, none⟩,
      ⟨some 24, (.load 27 (.tmp 23)), 27, none⟩,
      ⟨some 25, (.call ⟨(.builtin .len), #[(.tmp 24)], #[27]⟩), 3, none⟩,
      ⟨some 26, (.binOp .lss 3 (.tmp 22) (.tmp 25) 3), 4, none⟩])
    (.cond (.tmp 26)
    .skip
    (.exit 2)))
    (.seq (.block 3 (.seq (.reg [] [⟨some 9, (.assign (.const (.int .i64 0))), 3, none⟩])
    (.block 4 (.loop (.seq (.seq (.reg [] [⟨some 29, (.move (.tmp 9)), 3, none⟩,
      ⟨some 30, (.fieldAddr 53 (.tmp 1) 1), 0, none⟩,
      ⟨some 31, (.load 27 (.tmp 30)), 27, none⟩,
      ⟨some 32, (.move (.tmp 8)), 3, none⟩,
      ⟨some 33, (.indexAddr 27 (.tmp 31) (.tmp 32)), 0, none⟩,
      ⟨some 34, (.load 23 (.tmp 33)), 23, none⟩,
      ⟨some 35, (.call ⟨(.builtin .len), #[(.tmp 34)], #[23]⟩), 3, none⟩,
      ⟨some 36, (.binOp .lss 3 (.tmp 29) (.tmp 35) 3), 4, none⟩])
    (.cond (.tmp 36)
    .skip
    (.exit 4)))
    (.seq (.block 5 (.seq (.reg [] [⟨some 39, (.fieldAddr 53 (.tmp 1) 1), 0, none⟩,
      ⟨some 40, (.load 27 (.tmp 39)), 27, none⟩,
      ⟨some 41, (.move (.tmp 8)), 3, none⟩,
      ⟨some 42, (.indexAddr 27 (.tmp 40) (.tmp 41)), 0, none⟩,
      ⟨some 43, (.load 23 (.tmp 42)), 23, none⟩,
      ⟨some 44, (.move (.tmp 9)), 3, none⟩,
      ⟨some 45, (.indexAddr 23 (.tmp 43) (.tmp 44)), 0, none⟩,
      ⟨some 46, (.load 3 (.tmp 45)), 3, none⟩,
      ⟨some 10, (.assign (.tmp 46)), 3, none⟩])
    (.seq (.draw [] [⟨some 47, (.move (.tmp 4)), 23, none⟩,
      ⟨some 48, (.move (.tmp 10)), 3, none⟩,
      ⟨some 49, (.indexAddr 23 (.tmp 47) (.tmp 48)), 0, none⟩,
      ⟨some 50, (.load 3 (.tmp 49)), 3, none⟩,
      ⟨some 51, (.move (.tmp 4)), 23, none⟩,
      ⟨some 52, (.move (.tmp 8)), 3, none⟩,
      ⟨some 53, (.indexAddr 23 (.tmp 51) (.tmp 52)), 0, none⟩,
      ⟨some 54, (.load 3 (.tmp 53)), 3, none⟩,
      ⟨some 55, (.binOp .add 3 (.tmp 54) (.const (.int .i64 1)) 3), 3, none⟩,
      ⟨some 56, (.binOp .lss 3 (.tmp 50) (.tmp 55) 3), 4, none⟩] [(0, 1), (0, 4), (1, 4), (2, 4), (3, 4), (0, 5), (1, 5), (2, 5), (3, 5), (4, 5), (0, 6), (1, 6), (2, 6), (3, 6), (0, 7), (1, 7), (2, 7), (3, 7), (0, 8), (1, 8), (2, 8), (3, 8)])
    (.cond (.tmp 56)
    (.seq (.reg [] [⟨some 57, (.move (.tmp 4)), 23, none⟩,
      ⟨some 58, (.move (.tmp 10)), 3, none⟩,
      ⟨some 59, (.move (.tmp 4)), 23, none⟩,
      ⟨some 60, (.move (.tmp 8)), 3, none⟩,
      ⟨some 61, (.indexAddr 23 (.tmp 59) (.tmp 60)), 0, none⟩,
      ⟨some 62, (.load 3 (.tmp 61)), 3, none⟩,
      ⟨some 63, (.binOp .add 3 (.tmp 62) (.const (.int .i64 1)) 3), 3, none⟩,
      ⟨some 64, (.indexAddr 23 (.tmp 57) (.tmp 58)), 0, none⟩,
      ⟨none, (.store 3 (.tmp 64) (.tmp 63)), 0, none⟩])
    (.seq (.reg [] [⟨some 65, (.move (.tmp 5)), 3, none⟩,
      ⟨some 66, (.move (.tmp 4)), 23, none⟩,
      ⟨some 67, (.move (.tmp 10)), 3, none⟩,
      ⟨some 68, (.indexAddr 23 (.tmp 66) (.tmp 67)), 0, none⟩,
      ⟨some 69, (.load 3 (.tmp 68)), 3, none⟩,
      ⟨some 70, (.call ⟨(.builtin .max), #[(.tmp 65), (.tmp 69)], #[3, 3]⟩), 3, none⟩,
      ⟨some 5, (.assign (.tmp 70)), 3, none⟩])
    (.reg [] [⟨some 7, (.assign (.const (.bool true))), 4, none⟩])))
    .skip))))
    (.reg [] [⟨some 37, (.move (.tmp 9)), 3, none⟩,
      ⟨some 38, (.binOp .add 3 (.tmp 37) (.const (.int .i64 1)) 3), 3, none⟩,
      ⟨some 9, (.assign (.tmp 38)), 3, none⟩])))))))
    (.reg [] [⟨some 27, (.move (.tmp 8)), 3, none⟩,
      ⟨some 28, (.binOp .add 3 (.tmp 27) (.const (.int .i64 1)) 3), 3, none⟩,
      ⟨some 8, (.assign (.tmp 28)), 3, none⟩]))))))
    (.seq (.reg [] [⟨some 71, (.move (.tmp 7)), 4, none⟩,
      ⟨some 72, (.unOp .not 4 (.tmp 71)), 4, none⟩])
    (.cond (.tmp 72)
    (.seq (.reg [] [⟨some 73, (.move (.tmp 5)), 3, none⟩,
      ⟨some 2, (.assign (.tmp 73)), 3, none⟩,
      ⟨some 3, (.assign (.const (.bool true))), 4, none⟩])
    .ret)
    .skip)))))
    (.reg [] [⟨some 20, (.move (.tmp 6)), 3, none⟩,
      ⟨some 21, (.binOp .add 3 (.tmp 20) (.const (.int .i64 1)) 3), 3, none⟩,
      ⟨some 6, (.assign (.tmp 21)), 3, none⟩]))))))
    (.seq (.reg [] [⟨some 2, (.assign (.const (.int .i64 0))), 3, none⟩,
      ⟨some 3, (.assign (.const (.bool false))), 4, none⟩])
    .ret)))))
theorem C70 {args : List AV} {r : AV} (hn : args.length ≤ 74) (h : vc Tryz.prog T [] A70 (Fin T [(.tmp 2), (.tmp 3)] r) ⟨envOf 0 args, []⟩) : CallP Tryz.prog 70 args r :=
  callP_of tok mixed Tryz.func70 (by kernel_rfl) (by kernel_rfl) (by kernel_rfl : Tryz.f70.ntmps = 74) (by kernel_rfl : Tryz.f70.body.bind (strip 74 (fun _ => [])) = some A70) hn h
def A38 : ACode :=
  (.seq (.reg [] [⟨some 1, (.box 53 (.tmp 0)), 0, none⟩,
      ⟨some 2, (.assign (.const (.slice none 0 0))), 27, none⟩])
    (.seq (.reg [] [⟨some 3, (.assign (.const (.slice none 0 0))), 27, none⟩])
    (.seq (.seq (.reg [] [⟨some 4, (.assign (.const (.int .i64 0))), 3, none⟩])
    (.block 0 (.loop (.seq (.seq (.reg [] [⟨some 5, (.move (.tmp 4)), 3, none⟩,
      ⟨some 6, (.fieldAddr 53 (.tmp 1) 0), 0, none⟩,
      ⟨some 7, (.load 27 (.tmp 6)), 27, none⟩,
      ⟨some 8, (.call ⟨(.builtin .len), #[(.tmp 7)], #[27]⟩), 3, none⟩,
      ⟨some 9, (.binOp .lss 3 (.tmp 5) (.tmp 8) 3), 4, none⟩])
    (.cond (.tmp 9)
    .skip
    (.exit 0)))
    (.seq (.block 1 (.seq (.reg [] [⟨some 12, (.fieldAddr 53 (.tmp 1) 1), 0, none⟩,
      ⟨some 13, (.load 27 (.tmp 12)), 27, none⟩,
      ⟨some 14, (.move (.tmp 4)), 3, none⟩,
      ⟨some 15, (.indexAddr 27 (.tmp 13) (.tmp 14)), 0, none⟩,
      ⟨some 16, (.load 23 (.tmp 15)), 23, none⟩,
      ⟨some 17, (.call ⟨(.builtin .len), #[(.tmp 16)], #[23]⟩), 3, none⟩,
      ⟨some 18, (.binOp .eql 3 (.tmp 17) (.const (.int .i64 0)) 3), 4, none⟩])
    (.cond (.tmp 18)
    (.reg [] [⟨some 19, (.move (.tmp 3)), 27, none⟩,
      ⟨some 20, (.fieldAddr 53 (.tmp 1) 0), 0, none⟩,
      ⟨some 21, (.load 27 (.tmp 20)), 27, none⟩,
      ⟨some 22, (.move (.tmp 4)), 3, none⟩,
      ⟨some 23, (.indexAddr 27 (.tmp 21) (.tmp 22)), 0, none⟩,
      ⟨some 24, (.load 23 (.tmp 23)), 23, none⟩,
      ⟨some 25, (.call ⟨(.value (.func 79)), #[(.tmp 19), (.tmp 24)], #[27, 23]⟩), 27, none⟩,
      ⟨some 3, (.assign (.tmp 25)), 27, none⟩])
    .skip)))
    (.reg [] [⟨some 10, (.move (.tmp 4)), 3, none⟩,
      ⟨some 11, (.binOp .add 3 (.tmp 10) (.const (.int .i64 1)) 3), 3, none⟩,
      ⟨some 4, (.assign (.tmp 11)), 3, none⟩]))))))
    (.seq (.reg [] [⟨some 26, (.move (.tmp 3)), 27, none⟩,
      ⟨some 2, (.assign (.tmp 26)), 27, none⟩])
    .ret))))
theorem C38 {args : List AV} {r : AV} (hn : args.length ≤ 27) (h : vc Tryz.prog T [] A38 (Fin T [(.tmp 2)] r) ⟨envOf 0 args, []⟩) : CallP Tryz.prog 38 args r :=
  callP_of tok mixed Tryz.func38 (by kernel_rfl) (by kernel_rfl) (by kernel_rfl : Tryz.f38.ntmps = 27) (by kernel_rfl : Tryz.f38.body.bind (strip 27 (fun _ => [])) = some A38) hn h
end Go.Proofs.YtkhddecnllcaiaaGreat
end

section
/- Contracts: the reference's longest walk. -/
namespace Go.Proofs.YtkhddecnllcaiaaGreat
open Go.Abs Go
set_option maxRecDepth 20000
set_option maxHeartbeats 2000000
attribute [local irreducible] PreK CondK CallK CallG CallX LoopK
attribute [local simp] avsEq avEq akind teq vkind vEq

theorem relsM_cons (a : List Int × Int × Bool) (e : Nat × Nat) (l : List (Nat × Nat)) : relsM a (e :: l) = relsM (relM a e) l := rfl
/-- What the loops know of the graph. -/
structure RowsOK (g : RG) : Prop where
  num : g.ws.length ≤ 300
  len : g.nx.length = g.ws.length
  row : ∀ j, j < g.nx.length → (el g.nx j).length ≤ 54
  lt : ∀ j, j < g.nx.length → ∀ q, q < (el g.nx j).length → 0 ≤ el (el g.nx j) q ∧ el (el g.nx j) q < g.ws.length
theorem rowsOK_of {s : List Rule} {w : Word} {g : RG} (hs : sysErr s = 0) (h : rreachG s w = some g) (hok : g.ok) : RowsOK g := by
  obtain ⟨_, _, h3, h4⟩ := rclosed h
  refine ⟨hok.num, h3, fun j hj => ?_, fun j hj q hq => ?_⟩
  · have hj2 : j < g.ws.length := by omega
    have h5 := (h4 j hj2).1
    have h6 := insA_len (nxP s (el g.ws j)) []
    have h7 := movesM_len hs (hok.fine _ (el_mem_of g.ws j hj2))
    have h8 : (nxP s (el g.ws j)).length = (movesM s (el g.ws j)).length := by simp [nxP]
    unfold nxR at h5
    simp only [List.length_nil] at h6
    omega
  · have hj2 : j < g.ws.length := by omega
    obtain ⟨a1, a2⟩ := h4 j hj2
    obtain ⟨k, k1, k2, _⟩ := a2 q (by omega)
    omega
theorem rlongest_c (g : RG) (h : RowsOK g) : CallP Tryz.prog 70 [rgraphV g] (.tup [iv (rLongestG g).1, bv (rLongestG g).2]) := by
  refine C70 (by simp) ?_
  have hnum := h.num
  have hlen := h.len
  have hE : (edgesF 0 g.nx).length ≤ 300 * 54 := by
    have h1 := edgesF_len (r := g.nx) (i := 0) (M := 54) fun l hl => by
      obtain ⟨q, hq, rfl⟩ := List.getElem_of_mem hl
      have := h.row q hq
      rwa [el_eq _ q hq] at this
    have h2 : g.nx.length * 54 ≤ 300 * 54 := Nat.mul_le_mul_right 54 (by omega)
    omega
  generalize hes : edgesF 0 g.nx = es at hE
  unfold rLongestG
  rw [hes]
  generalize hR : relN es (g.ws.length + 1) (List.replicate g.ws.length 0) 0 = R
  have hz : inB (List.replicate g.ws.length 0) ((0 * es.length : Nat) : Int) := by
    intro k
    have : el (List.replicate g.ws.length (0 : Int)) k = 0 := by
      by_cases hk : k < g.ws.length
      · rw [el_eq _ _ (by simpa using hk)]; simp
      · unfold el
        rw [List.getD_eq_getElem?_getD, List.getElem?_eq_none (by simp; omega)]; rfl
    rw [this]; omega
  simp [A70, rgraphV]
  repeat (refine PreK.intro (by first | omega | (intros; first | omega | (refine ⟨by omega, ?_⟩; simp_all; done) | (simp_all; done) | (simp_all; omega))) fun _ => ?_; (try simp ))
  refine LoopK.by (ι := Nat × List Int × Int) (fun x => ⟨[(6, iv x.1), (5, iv x.2.2), (4, .sl 14 1 0 g.ws.length), (1, .pt 1 1 0 0)], [(1, some ⟨3, [rgraphV g], 1, true⟩), (14, some ⟨1, x.2.1.map iv, 1, false⟩)]⟩) (fun x => g.ws.length + 1 - x.1)
    (fun x => x.1 ≤ g.ws.length + 1 ∧ x.2.1.length = g.ws.length ∧ inB x.2.1 ((x.1 * es.length : Nat) : Int) ∧ relN es (g.ws.length + 1 - x.1) x.2.1 x.2.2 = R) (0, List.replicate g.ws.length 0, 0) ⟨by dsimp only; omega, by simp, hz, by simpa using hR⟩ (by simp [rgraphV]) ?_
  intro ⟨k, o, b⟩ Q' ⟨hk, ho, hb, hc⟩ hq he hr
  dsimp only at hk ho hb hc
  simp only [rgraphV]
  repeat (refine PreK.intro (by first | omega | (intros; first | omega | (refine ⟨by omega, ?_⟩; simp_all; done) | (simp_all; done) | (simp_all; omega))) fun _ => ?_; (try simp ))
  refine CondK.intro (fun h1 => ?_) (fun h1 => ?_)
  · simp at h1
    rw [show g.ws.length + 1 - k = (g.ws.length - k) + 1 by omega, relN] at hc
    have hKL : k * es.length ≤ 301 * (300 * 54) := Nat.mul_le_mul (by omega) hE
    have hKL1 : (k + 1) * es.length = k * es.length + es.length := Nat.succ_mul _ _
    generalize k * es.length = KL at hb hKL hKL1
    generalize hRR : relsM (o, b, false) es = RR at hc
    repeat (refine PreK.intro (by first | omega | (intros; first | omega | (refine ⟨by omega, ?_⟩; simp_all; done) | (simp_all; done) | (simp_all; omega))) fun _ => ?_; (try simp ))
    refine LoopK.by (ι := Nat × List Int × Int × Bool) (fun x => ⟨[(8, iv x.1), (7, bv x.2.2.2), (6, iv k), (5, iv x.2.2.1), (4, .sl 14 1 0 g.ws.length), (1, .pt 1 1 0 0)], [(1, some ⟨3, [rgraphV g], 1, true⟩), (14, some ⟨1, x.2.1.map iv, 1, false⟩)]⟩) (fun x => g.ws.length - x.1)
      (fun x => x.1 ≤ g.ws.length ∧ x.2.1.length = g.ws.length ∧ (edgesF x.1 (g.nx.drop x.1)).length ≤ es.length ∧ inB x.2.1 ((KL + (es.length - (edgesF x.1 (g.nx.drop x.1)).length) : Nat) : Int) ∧ relsM x.2 (edgesF x.1 (g.nx.drop x.1)) = RR) (0, o, b, false)
      ⟨Nat.zero_le _, ho, by simp [hes], by simpa [hes] using hb, by simpa [hes] using hRR⟩ (by simp [rgraphV]) ?_
    intro ⟨i, a, b1, c1⟩ Q2 ⟨hi, ha, hel, hab, hrel⟩ hq2 he2 hr2
    dsimp only at hi ha hel hab hrel
    simp only [rgraphV]
    repeat (refine PreK.intro (by first | omega | (intros; first | omega | (refine ⟨by omega, ?_⟩; simp_all; done) | (simp_all; done) | (simp_all; omega))) fun _ => ?_; (try simp ))
    refine CondK.intro (fun h2 => ?_) (fun h2 => ?_)
    · simp at h2
      have h2n : i < g.nx.length := by omega
      have hrow := h.row i h2n
      have hrlt := h.lt i h2n
      rw [drop_cons g.nx i h2n, edgesF] at hel hab hrel
      generalize hrw : el g.nx i = row at hel hab hrel hrow hrlt
      generalize htl : edgesF (i + 1) (g.nx.drop (i + 1)) = tl at hel hab hrel
      repeat (refine PreK.intro (by first | omega | (intros; first | omega | (refine ⟨by omega, ?_⟩; simp_all; done) | (simp_all; done) | (simp_all; omega))) fun _ => ?_; (try simp ))
      refine LoopK.by (ι := Nat × List Int × Int × Bool) (fun x => ⟨[(9, iv x.1), (8, iv i), (7, bv x.2.2.2), (6, iv k), (5, iv x.2.2.1), (4, .sl 14 1 0 g.ws.length), (1, .pt 1 1 0 0)], [(1, some ⟨3, [rgraphV g], 1, true⟩), (14, some ⟨1, x.2.1.map iv, 1, false⟩)]⟩) (fun x => row.length - x.1)
        (fun x => x.1 ≤ row.length ∧ x.2.1.length = g.ws.length ∧ (rowE i (row.drop x.1) ++ tl).length ≤ es.length ∧ inB x.2.1 ((KL + (es.length - (rowE i (row.drop x.1) ++ tl).length) : Nat) : Int) ∧ relsM x.2 (rowE i (row.drop x.1) ++ tl) = RR) (0, a, b1, c1)
        ⟨Nat.zero_le _, ha, by simpa using hel, by simpa using hab, by simpa using hrel⟩ (by simp [rgraphV]) ?_
      intro ⟨q, a2, b2, c2⟩ Q3 ⟨hq4, ha2, hel2, hab2, hrel2⟩ hq3 he3 hr3
      dsimp only at hq4 ha2 hel2 hab2 hrel2
      simp only [rgraphV]
      repeat (refine PreK.intro (by first | omega | (intros; first | omega | (refine ⟨by omega, ?_⟩; simp_all; done) | (simp_all; done) | (simp_all; omega))) fun _ => ?_; (try simp [h2, h2n, hrw]))
      refine CondK.intro (fun h3 => ?_) (fun h3 => ?_)
      · simp at h3
        obtain ⟨j0, jN⟩ := hrlt q h3
        rw [drop_cons row q h3] at hel2 hab2 hrel2
        have e1 : rowE i (el row q :: row.drop (q + 1)) ++ tl = (i, (el row q).toNat) :: (rowE i (row.drop (q + 1)) ++ tl) := rfl
        rw [e1] at hel2 hab2 hrel2
        rw [relsM_cons] at hrel2
        generalize hrest : rowE i (row.drop (q + 1)) ++ tl = rest at hel2 hab2 hrel2
        simp only [List.length_cons] at hel2 hab2
        have jN2 : (el row q).toNat < g.ws.length := by omega
        have hjl : (el row q).toNat < a2.length := by omega
        have hil : i < a2.length := by omega
        have hib := hab2 i
        have hin := relM_inB (b := b2) (c := c2) (e := (i, (el row q).toNat)) hab2 hjl
        have eB : ((KL + (es.length - (rest.length + 1)) : Nat) : Int) + 1 = ((KL + (es.length - rest.length) : Nat) : Int) := by omega
        rw [eB] at hin
        have hrl : (relM (a2, b2, c2) (i, (el row q).toNat)).1.length = a2.length := relM_len _ _
        repeat (refine PreK.intro (by first | omega | (intros; first | omega | (refine ⟨by omega, ?_⟩; simp_all; done) | (simp_all; done) | (simp_all; omega))) fun _ => ?_; (try simp [h2, h2n, hrw, h3, j0, jN, jN2, hjl, hil, ha2]))
        refine CondK.intro (fun h4 => ?_) (fun h4 => ?_)
        · simp at h4
          have hrm : relM (a2, b2, c2) (i, (el row q).toNat) = (a2.set (el row q).toNat (el a2 i + 1), (if b2 < el a2 i + 1 then el a2 i + 1 else b2), true) := by
            unfold relM
            rw [if_pos (by exact h4)]
            have : max b2 (el a2 i + 1) = if b2 < el a2 i + 1 then el a2 i + 1 else b2 := by split <;> omega
            dsimp only
            rw [this]
          rw [hrm] at hrel2 hin hrl
          dsimp only at hin hrl
          have hns : nth ((List.map iv a2).set (el row q).toNat (AV.raw (Value.int IntKind.i64 (el a2 i + 1)))) (el row q).toNat = AV.raw (Value.int IntKind.i64 (el a2 i + 1)) := by
            unfold nth
            rw [List.getD_eq_getElem?_getD, List.getElem?_set_self (by simpa using hjl)]; rfl
          repeat (refine PreK.intro (by first | omega | (intros; first | omega | (refine ⟨by omega, ?_⟩; simp_all; done) | (simp_all; done) | (simp_all; omega))) fun _ => ?_; (try simp [h2, h2n, hrw, h3, j0, jN, jN2, hjl, hil, ha2, hns]))
          refine hq3 (q + 1, a2.set (el row q).toNat (el a2 i + 1), (if b2 < el a2 i + 1 then el a2 i + 1 else b2), true) _ ⟨by dsimp only; omega, by dsimp only; omega, by dsimp only; rw [hrest]; omega, by dsimp only; rw [hrest]; exact hin, by dsimp only; rw [hrest]; exact hrel2⟩ (by dsimp only; omega) ?_
          simp [rgraphV, hjl, hil, ha2]
        · simp at h4
          have hrm : relM (a2, b2, c2) (i, (el row q).toNat) = (a2, b2, c2) := by
            unfold relM
            rw [if_neg (by dsimp only; omega)]
          rw [hrm] at hrel2 hin
          dsimp only at hin
          repeat (refine PreK.intro (by first | omega | (intros; first | omega | (refine ⟨by omega, ?_⟩; simp_all; done) | (simp_all; done) | (simp_all; omega))) fun _ => ?_; (try simp ))
          exact hq3 (q + 1, a2, b2, c2) _ ⟨by dsimp only; omega, ha2, by dsimp only; rw [hrest]; omega, by dsimp only; rw [hrest]; exact hin, by dsimp only; rw [hrest]; exact hrel2⟩ (by dsimp only; omega) (by simp [rgraphV])
      · simp at h3
        rw [List.drop_eq_nil_of_le (by omega)] at hel2 hab2 hrel2
        simp only [rowE, List.map_nil, List.nil_append] at hel2 hab2 hrel2
        try simp 
        apply he3
        repeat (refine PreK.intro (by first | omega | (intros; first | omega | (refine ⟨by omega, ?_⟩; simp_all; done) | (simp_all; done) | (simp_all; omega))) fun _ => ?_; (try simp ))
        exact hq2 (i + 1, a2, b2, c2) _ ⟨by dsimp only; omega, ha2, by simpa [htl] using hel2, by simpa [htl] using hab2, by simpa [htl] using hrel2⟩ (by dsimp only; omega) (by simp [rgraphV])
    · simp at h2
      rw [List.drop_eq_nil_of_le (by omega), edgesF] at hel hab hrel
      simp only [relsM] at hrel
      subst hrel
      try simp 
      apply he2
      repeat (refine PreK.intro (by first | omega | (intros; first | omega | (refine ⟨by omega, ?_⟩; simp_all; done) | (simp_all; done) | (simp_all; omega))) fun _ => ?_; (try simp ))
      cases c1
      · simp only [Bool.false_eq_true, if_false] at hc
        refine CondK.intro (fun h5 => ?_) (fun h5 => ?_)
        · try simp 
          apply hr
          simp [← hc]
        · cases h5
      · simp only [if_true] at hc
        refine CondK.intro (fun h5 => ?_) (fun h5 => ?_)
        · cases h5
        · repeat (refine PreK.intro (by first | omega | (intros; first | omega | (refine ⟨by omega, ?_⟩; simp_all; done) | (simp_all; done) | (simp_all; omega))) fun _ => ?_; (try simp ))
          refine hq (k + 1, a, b1) _ ⟨by dsimp only; omega, ha, ?_, by dsimp only; rw [show g.ws.length + 1 - (k + 1) = g.ws.length - k by omega]; exact hc⟩ (by dsimp only; omega) (by simp [rgraphV])
          dsimp only
          rw [hKL1]
          simpa using hab
  · simp at h1
    rw [show g.ws.length + 1 - k = 0 by omega, relN] at hc
    try simp 
    apply he
    simp [← hc]
end Go.Proofs.YtkhddecnllcaiaaGreat
end

section
/- Contracts: Longest and Forever on both sides; the statement FeedForever. -/
namespace Go.Proofs.YtkhddecnllcaiaaGreat
open Go.Abs Go
set_option maxRecDepth 20000
set_option maxHeartbeats 2000000
attribute [local irreducible] PreK CondK CallK CallG CallX LoopK
attribute [local simp] avsEq avEq akind teq vkind vEq

def rLongestE (s : List Rule) (w : Word) : Int × Bool × Int := if swErr s w ≠ 0 then (0, false, swErr s w) else match rreachG s w with
  | none => (0, false, 3)
  | some g => ((rLongestG g).1, (rLongestG g).2, 0)
theorem longest_same (s : List Rule) (w : Word) : rLongestE s w = LongestE s w := by
  unfold rLongestE LongestE
  by_cases h0 : swErr s w = 0
  · rw [if_neg (by simp [h0]), if_neg (by simp [h0])]
    have h := graphs_same s w
    cases hg : reachG s w with
    | none =>
      cases hr : rreachG s w with
      | none => rfl
      | some r => rw [hg, hr] at h; exact h.elim
    | some g =>
      cases hr : rreachG s w with
      | none => rw [hg, hr] at h; exact h.elim
      | some r =>
        have h1 := longestG_spec hg (reachG_ok h0 hg)
        have h2 := rlongestG_spec hr
        obtain ⟨e1, e2⟩ := h1.same h2
        dsimp only
        rw [e1, e2]
  · rw [if_pos h0, if_pos h0]
def ForeverE (s : List Rule) (w : Word) : Bool × Int := (decide ((LongestE s w).2.2 = 0) && !(LongestE s w).2.1, (LongestE s w).2.2)
theorem Forever_c (s : List Rule) (w : List Int) (h : Sys.small s) (hw : w.length ≤ 1000) : CallP Tryz.prog 14 [rulesV s, ints w] (.tup [bv (ForeverE s w).1, iv (ForeverE s w).2]) := by
  refine C14 (by simp) ?_
  have hrc := reached_c s w h hw
  by_cases h1 : swErr s w = 0
  · have e1 : reachedV s w = reachV s (reachG s w) := by simp [reachedV, h1]
    rw [e1] at hrc
    cases hg : reachG s w with
    | none =>
      rw [hg] at hrc
      have e2 : ForeverE s w = (false, 3) := by simp [ForeverE, LongestE, h1, hg]
      rw [e2]
      simp only [reachV] at hrc
      simp [A14]
      try simp 
      repeat' (first
        | (refine CallX.pure (hrc) (by simp) (by simp) ?_; try simp )
        | (refine CallK.intro (hrc) (by simp) (by simp) ?_; try simp )
        | (refine CallG.intro (fun _ => hrc) (by simp) (by simp) ?_; try simp )
        | ((with_reducible refine PreK.intro ?_ ?_); (next => (first | omega | (intros; first | omega | (refine ⟨by omega, ?_⟩; repeat (first | assumption | constructor)) | assumption))); intro _; try simp )
        | fail)
      refine CondK.intro (fun h2 => ?_) (fun h2 => ?_)
      · try simp 
        repeat' (first
          | ((with_reducible refine PreK.intro ?_ ?_); (next => (first | omega | (intros; first | omega | (refine ⟨by omega, ?_⟩; repeat (first | assumption | constructor)) | assumption))); intro _; try simp )
          | fail)
      · simp at h2
    | some g =>
      rw [hg] at hrc
      have hec := longest_c s g h (swErr_zero h1).1 (reachG_ok h1 hg) (shut_of hg)
      have e2 : ForeverE s w = (!(LongestG s g).2, 0) := by simp [ForeverE, LongestE, h1, hg]
      rw [e2]
      simp only [reachV, graphV] at hrc
      simp only [graphV] at hec
      generalize LongestG s g = L at hec
      simp [A14]
      try simp 
      repeat' (first
        | (refine CallX.pure (hrc) (by simp) (by simp) ?_; try simp )
        | (refine CallK.intro (hrc) (by simp) (by simp) ?_; try simp )
        | (refine CallG.intro (fun _ => hrc) (by simp) (by simp) ?_; try simp )
        | ((with_reducible refine PreK.intro ?_ ?_); (next => (first | omega | (intros; first | omega | (refine ⟨by omega, ?_⟩; repeat (first | assumption | constructor)) | assumption))); intro _; try simp )
        | fail)
      refine CondK.intro (fun h2 => ?_) (fun h2 => ?_)
      · simp at h2
      · try simp 
        repeat' (first
          | (refine CallX.pure (hec) (by simp) (by simp) ?_; try simp )
          | (refine CallK.intro (hec) (by simp) (by simp) ?_; try simp )
          | (refine CallG.intro (fun _ => hec) (by simp) (by simp) ?_; try simp )
          | ((with_reducible refine PreK.intro ?_ ?_); (next => (first | omega | (intros; first | omega | (refine ⟨by omega, ?_⟩; repeat (first | assumption | constructor)) | assumption))); intro _; try simp )
          | fail)
  · have e1 : reachedV s w = .tup [.raw (.pointer none), iv (swErr s w)] := by simp [reachedV, h1]
    rw [e1] at hrc
    have e2 : ForeverE s w = (false, swErr s w) := by simp [ForeverE, LongestE, h1]
    rw [e2]
    simp [A14]
    try simp 
    repeat' (first
      | (refine CallX.pure (hrc) (by simp) (by simp) ?_; try simp )
      | (refine CallK.intro (hrc) (by simp) (by simp) ?_; try simp )
      | (refine CallG.intro (fun _ => hrc) (by simp) (by simp) ?_; try simp )
      | ((with_reducible refine PreK.intro ?_ ?_); (next => (first | omega | (intros; first | omega | (refine ⟨by omega, ?_⟩; repeat (first | assumption | constructor)) | assumption))); intro _; try simp )
      | fail)
    refine CondK.intro (fun h2 => ?_) (fun h2 => ?_)
    · try simp 
      repeat' (first
        | ((with_reducible refine PreK.intro ?_ ?_); (next => (first | omega | (intros; first | omega | (refine ⟨by omega, ?_⟩; repeat (first | assumption | constructor)) | assumption))); intro _; try simp )
        | fail)
    · simp at h2
      exact absurd h2 h1
end Go.Proofs.YtkhddecnllcaiaaGreat
end

section
/- Contracts: the ends in the document; the statement FeedEnds. -/
namespace Go.Proofs.YtkhddecnllcaiaaGreat
open Go.Abs Go
set_option maxRecDepth 20000
set_option maxHeartbeats 2000000
attribute [local irreducible] PreK CondK CallK CallG CallX LoopK
attribute [local simp] avsEq avEq akind teq vkind vEq

/-- The words of a graph from which no edge goes. -/
def rendsF (g : RG) : Nat → Nat → List Word
  | _, 0 => []
  | i, n + 1 => if (el g.nx i).length = 0 then el g.ws i :: rendsF g (i + 1) n else rendsF g (i + 1) n
theorem rendsF_mem {g : RG} : ∀ {n i : Nat} {x : Word}, x ∈ rendsF g i n ↔ ∃ j, i ≤ j ∧ j < i + n ∧ (el g.nx j).length = 0 ∧ x = el g.ws j
  | 0, i, x => by
    simp only [rendsF, List.not_mem_nil, false_iff]
    rintro ⟨j, h1, h2, _⟩
    omega
  | n + 1, i, x => by
    rw [rendsF]
    split
    · rename_i h0
      rw [List.mem_cons, rendsF_mem]
      constructor
      · rintro (h | ⟨j, h1, h2, h3, h4⟩)
        · exact ⟨i, Nat.le_refl i, by omega, h0, h⟩
        · exact ⟨j, by omega, by omega, h3, h4⟩
      · rintro ⟨j, h1, h2, h3, h4⟩
        by_cases e : j = i
        · subst e; exact .inl h4
        · exact .inr ⟨j, by omega, by omega, h3, h4⟩
    · rename_i h0
      rw [rendsF_mem]
      constructor
      · rintro ⟨j, h1, h2, h3, h4⟩
        exact ⟨j, by omega, by omega, h3, h4⟩
      · rintro ⟨j, h1, h2, h3, h4⟩
        by_cases e : j = i
        · subst e; exact absurd h3 h0
        · exact ⟨j, by omega, by omega, h3, h4⟩
theorem rends_c (g : RG) (h : RowsOK g) (hok : g.ok) : CallP Tryz.prog 38 [rgraphV g] (wordsV (insA [] (rendsF g 0 g.ws.length))) := by
  refine C38 (by simp) ?_
  have hnum := hok.num
  have hlen := h.len
  have hws : ∀ x ∈ g.ws, x.length ≤ 8 := fun x hx => (wordErr_zero (hok.fine x hx)).1
  generalize hR : insA [] (rendsF g 0 g.ws.length) = R
  simp [A38, rgraphV]
  repeat (refine PreK.intro (by first | omega | (intros; first | omega | (refine ⟨by omega, ?_⟩; simp_all; done) | (simp_all; done) | (simp_all; omega))) fun _ => ?_; (try simp ))
  refine LoopK.frz 3 (b := ⟨1, [], 1, false⟩) (by simp) (by simp) ?_
  refine LoopK.by (ι := Nat × List Word) (fun x => ⟨[(4, iv x.1), (3, wordsV x.2), (1, .pt 1 1 0 0)], [(1, some ⟨3, [rgraphV g], 1, true⟩)]⟩) (fun x => g.ws.length - x.1)
    (fun x => x.1 ≤ g.ws.length ∧ x.2.length ≤ x.1 ∧ (∀ y ∈ x.2, y.length ≤ 8) ∧ insA x.2 (rendsF g x.1 (g.ws.length - x.1)) = R) (0, []) (by simpa using hR) (by simp [rgraphV]) ?_
  intro ⟨i, acc⟩ Q' ⟨hi, ha, hy, hc⟩ hq he hr
  dsimp only at hi ha hy hc
  simp only [rgraphV]
  try simp 
  refine CondK.intro (fun h1 => ?_) (fun h1 => ?_)
  · simp at h1
    have h8 := hws _ (el_mem_of g.ws i h1)
    have h1' : i < g.nx.length := by omega
    rw [show g.ws.length - i = (g.ws.length - (i + 1)) + 1 by omega, rendsF] at hc
    repeat (refine PreK.intro (by first | omega | (intros; first | omega | (refine ⟨by omega, ?_⟩; simp_all; done) | (simp_all; done) | (simp_all; omega))) fun _ => ?_; (try simp [h1, h1']))
    refine CondK.intro (fun h2 => ?_) (fun h2 => ?_)
    · have e : (el g.nx i).length = 0 := by (try simp at h2); simpa using h2
      rw [if_pos e, insA] at hc
      try simp [h1, h1']
      repeat' (first
        | (refine CallX.pure (insert_c acc (el g.ws i) (by omega) (fun x hx => Nat.le_trans (hy x hx) (by omega)) (by omega)) (by simp) (by simp) ?_; try simp [h1, h1'])
        | (refine CallK.intro (insert_c acc (el g.ws i) (by omega) (fun x hx => Nat.le_trans (hy x hx) (by omega)) (by omega)) (by simp) (by simp) ?_; try simp [h1, h1'])
        | (refine CallG.intro (fun _ => insert_c acc (el g.ws i) (by omega) (fun x hx => Nat.le_trans (hy x hx) (by omega)) (by omega)) (by simp) (by simp) ?_; try simp [h1, h1'])
        | ((with_reducible refine PreK.intro ?_ ?_); (next => (first | omega | (intros; first | omega | (refine ⟨by omega, ?_⟩; repeat (first | assumption | constructor)) | assumption))); intro _; try simp [h1, h1'])
        | fail)
      refine hq (i + 1, insM (el g.ws i) acc) _ ⟨by dsimp only; omega, ?_, insM_words _ 8 h8 hy, hc⟩ (by dsimp only; omega) (by simp [rgraphV])
      have := insM_len (el g.ws i) acc
      dsimp only; omega
    · have e : ¬ (el g.nx i).length = 0 := by (try simp at h2); simpa using h2
      rw [if_neg e] at hc
      repeat (refine PreK.intro (by first | omega | (intros; first | omega | (refine ⟨by omega, ?_⟩; simp_all; done) | (simp_all; done) | (simp_all; omega))) fun _ => ?_; (try simp ))
      exact hq (i + 1, acc) _ ⟨by dsimp only; omega, by dsimp only; omega, hy, hc⟩ (by dsimp only; omega) (by simp [rgraphV])
  · simp at h1
    rw [show g.ws.length - i = 0 by omega, rendsF, insA] at hc
    try simp 
    apply he
    try simp 
    repeat' (first
      | ((with_reducible refine PreK.intro ?_ ?_); (next => (first | omega | (intros; first | omega | (refine ⟨by omega, ?_⟩; repeat (first | assumption | constructor)) | assumption))); intro _; try simp )
      | fail)
    simp [← hc]
def rEndsE (s : List Rule) (w : Word) : List Word × Int := if swErr s w ≠ 0 then ([], swErr s w) else match rreachG s w with
  | none => ([], 3)
  | some g => (insA [] (rendsF g 0 g.ws.length), 0)
theorem ends_same (s : List Rule) (w : Word) : rEndsE s w = EndsE s w := by
  unfold rEndsE EndsE
  by_cases h0 : swErr s w = 0
  · rw [if_neg (by simp [h0]), if_neg (by simp [h0])]
    have h := graphs_same s w
    cases hg : reachG s w with
    | none =>
      cases hr : rreachG s w with
      | none => rfl
      | some r => rw [hg, hr] at h; exact h.elim
    | some g =>
      cases hr : rreachG s w with
      | none => rw [hg, hr] at h; exact h.elim
      | some r =>
        rw [hg, hr] at h
        obtain ⟨ws, rs, h1, h2, _, _, h5⟩ := h
        obtain ⟨_, _, h3, h4⟩ := rclosed hr
        dsimp only
        rw [uniq_insA (m := rendsF r 0 r.ws.length) (fun z => ?_)]
        have hmem : ∀ z, z ∈ g.ws ↔ z ∈ r.ws := fun z => by
          rw [h1.words, h2.words, List.mem_map, List.mem_map]
          exact ⟨fun ⟨y, hy, e⟩ => ⟨y, (h5 y).1 hy, e⟩, fun ⟨y, hy, e⟩ => ⟨y, (h5 y).2 hy, e⟩⟩
        have hend : ∀ z, isEndM s z = true ↔ nxR s z = [] := fun z => by
          have : nxR s z = [] ↔ nxP s z = [] := by
            constructor
            · intro e
              apply List.eq_nil_iff_forall_not_mem.2
              intro x hx
              have := mem_nxR.2 hx
              rw [e] at this; cases this
            · intro e
              apply List.eq_nil_iff_forall_not_mem.2
              intro x hx
              have := mem_nxR.1 hx
              rw [e] at this; cases this
          rw [this]
          unfold isEndM nxP
          simp
        rw [List.mem_filter, rendsF_mem, hmem]
        constructor
        · rintro ⟨hz, he⟩
          obtain ⟨q, hq, rfl⟩ := List.getElem_of_mem hz
          refine ⟨q, Nat.zero_le q, by omega, ?_, (el_eq _ q hq).symm⟩
          rw [(h4 q hq).1, el_eq _ q hq, (hend _).1 he]; rfl
        · rintro ⟨j, _, h6, h7, rfl⟩
          have hj : j < r.ws.length := by omega
          refine ⟨el_mem_of _ j hj, (hend _).2 ?_⟩
          rw [(h4 j hj).1] at h7
          exact List.eq_nil_of_length_eq_zero h7
  · rw [if_pos h0, if_pos h0]
end Go.Proofs.YtkhddecnllcaiaaGreat
end

section
/- Contracts: feed's IsCalm and One, whole. -/
namespace Go.Proofs.YtkhddecnllcaiaaGreat
open Go.Abs Go
set_option maxRecDepth 20000
set_option maxHeartbeats 2000000
attribute [local irreducible] PreK CondK CallK CallG CallX LoopK
attribute [local simp] avsEq avEq akind teq vkind vEq

noncomputable def CalmE (s : List Rule) (w : Word) : Bool × Int := if swErr s w ≠ 0 then (false, swErr s w) else match reachG s w with
  | none => (false, 3)
  | some g => (calmB (rowsG s g), 0)
theorem IsCalm_c (s : List Rule) (w : List Int) (h : Sys.small s) (hw : w.length ≤ 1000) : CallP Tryz.prog 28 [rulesV s, ints w] (.tup [bv (CalmE s w).1, iv (CalmE s w).2]) := by
  have hrc := reached_c s w h hw
  by_cases h1 : swErr s w = 0
  · have e1 : reachedV s w = reachV s (reachG s w) := by simp [reachedV, h1]
    rw [e1] at hrc
    cases hg : reachG s w with
    | none =>
      rw [hg] at hrc
      have e2 : CalmE s w = (false, 3) := by simp [CalmE, h1, hg]
      rw [e2]
      simp only [reachV] at hrc
      refine C28 (by simp) ?_
      simp [A28]
      try simp 
      repeat' (first
        | (refine CallX.pure (hrc) (by simp) (by simp) ?_; try simp )
        | (refine CallK.intro (hrc) (by simp) (by simp) ?_; try simp )
        | (refine CallG.intro (fun _ => hrc) (by simp) (by simp) ?_; try simp )
        | ((with_reducible refine PreK.intro ?_ ?_); (next => (first | omega | (intros; first | omega | (refine ⟨by omega, ?_⟩; repeat (first | assumption | constructor)) | assumption))); intro _; try simp )
        | fail)
      refine CondK.intro (fun h2 => ?_) (fun h2 => ?_)
      · try simp 
        repeat' (first
          | ((with_reducible refine PreK.intro ?_ ?_); (next => (first | omega | (intros; first | omega | (refine ⟨by omega, ?_⟩; repeat (first | assumption | constructor)) | assumption))); intro _; try simp )
          | fail)
      · simp at h2
    | some g =>
      have e2 : CalmE s w = (calmB (rowsG s g), 0) := by simp [CalmE, h1, hg]
      rw [e2]
      exact isCalm_c s w h hw g h1 hg
  · have e1 : reachedV s w = .tup [.raw (.pointer none), iv (swErr s w)] := by simp [reachedV, h1]
    rw [e1] at hrc
    have e2 : CalmE s w = (false, swErr s w) := by simp [CalmE, h1]
    rw [e2]
    refine C28 (by simp) ?_
    simp [A28]
    try simp 
    repeat' (first
      | (refine CallX.pure (hrc) (by simp) (by simp) ?_; try simp )
      | (refine CallK.intro (hrc) (by simp) (by simp) ?_; try simp )
      | (refine CallG.intro (fun _ => hrc) (by simp) (by simp) ?_; try simp )
      | ((with_reducible refine PreK.intro ?_ ?_); (next => (first | omega | (intros; first | omega | (refine ⟨by omega, ?_⟩; repeat (first | assumption | constructor)) | assumption))); intro _; try simp )
      | fail)
    refine CondK.intro (fun h2 => ?_) (fun h2 => ?_)
    · try simp 
      repeat' (first
        | ((with_reducible refine PreK.intro ?_ ?_); (next => (first | omega | (intros; first | omega | (refine ⟨by omega, ?_⟩; repeat (first | assumption | constructor)) | assumption))); intro _; try simp )
        | fail)
    · simp at h2
      exact absurd h2 h1
/-- The only one of a list, if no steps go on for ever. -/
def oneR (ok : Bool) (l : List Word) : Word × Bool := if ok && decide (l.length = 1) then (el l 0, true) else ([], false)
def OneE (s : List Rule) (w : Word) : Word × Bool × Int := if swErr s w ≠ 0 then ([], false, swErr s w) else match reachG s w with
  | none => ([], false, 3)
  | some g => ((oneR (LongestG s g).2 (uniq (g.ws.filter (isEndM s)))).1, (oneR (LongestG s g).2 (uniq (g.ws.filter (isEndM s)))).2, 0)
theorem One_c (s : List Rule) (w : List Int) (h : Sys.small s) (hw : w.length ≤ 1000) : CallP Tryz.prog 30 [rulesV s, ints w] (.tup [ints (OneE s w).1, bv (OneE s w).2.1, iv (OneE s w).2.2]) := by
  refine C30 (by simp) ?_
  have hrc := reached_c s w h hw
  by_cases h1 : swErr s w = 0
  · have e1 : reachedV s w = reachV s (reachG s w) := by simp [reachedV, h1]
    rw [e1] at hrc
    cases hg : reachG s w with
    | none =>
      rw [hg] at hrc
      have e2 : OneE s w = ([], false, 3) := by simp [OneE, h1, hg]
      rw [e2]
      simp only [reachV] at hrc
      simp [A30]
      try simp 
      repeat' (first
        | (refine CallX.pure (hrc) (by simp) (by simp) ?_; try simp )
        | (refine CallK.intro (hrc) (by simp) (by simp) ?_; try simp )
        | (refine CallG.intro (fun _ => hrc) (by simp) (by simp) ?_; try simp )
        | ((with_reducible refine PreK.intro ?_ ?_); (next => (first | omega | (intros; first | omega | (refine ⟨by omega, ?_⟩; repeat (first | assumption | constructor)) | assumption))); intro _; try simp )
        | fail)
      refine CondK.intro (fun h2 => ?_) (fun h2 => ?_)
      · try simp 
        repeat' (first
          | ((with_reducible refine PreK.intro ?_ ?_); (next => (first | omega | (intros; first | omega | (refine ⟨by omega, ?_⟩; repeat (first | assumption | constructor)) | assumption))); intro _; try simp )
          | fail)
      · simp at h2
    | some g =>
      rw [hg] at hrc
      have hec := ends_c s g h (swErr_zero h1).1 (reachG_ok h1 hg)
      have hlc := longest_c s g h (swErr_zero h1).1 (reachG_ok h1 hg) (shut_of hg)
      have e2 : OneE s w = ((oneR (LongestG s g).2 (uniq (g.ws.filter (isEndM s)))).1, (oneR (LongestG s g).2 (uniq (g.ws.filter (isEndM s)))).2, 0) := by simp [OneE, h1, hg]
      rw [e2]
      simp only [reachV, graphV] at hrc
      simp only [graphV] at hec hlc
      generalize uniq (g.ws.filter (isEndM s)) = U at hec
      generalize LongestG s g = L at hlc
      obtain ⟨L1, L2⟩ := L
      dsimp only at hlc
      simp [A30]
      try simp 
      repeat' (first
        | (refine CallX.pure (hrc) (by simp) (by simp) ?_; try simp )
        | (refine CallK.intro (hrc) (by simp) (by simp) ?_; try simp )
        | (refine CallG.intro (fun _ => hrc) (by simp) (by simp) ?_; try simp )
        | ((with_reducible refine PreK.intro ?_ ?_); (next => (first | omega | (intros; first | omega | (refine ⟨by omega, ?_⟩; repeat (first | assumption | constructor)) | assumption))); intro _; try simp )
        | fail)
      refine CondK.intro (fun h2 => ?_) (fun h2 => ?_)
      · simp at h2
      · try simp 
        repeat' (first
          | (refine CallX.pure (hec) (by simp) (by simp) ?_; try simp )
          | (refine CallK.intro (hec) (by simp) (by simp) ?_; try simp )
          | (refine CallG.intro (fun _ => hec) (by simp) (by simp) ?_; try simp )
          | (refine CallX.pure (hlc) (by simp) (by simp) ?_; try simp )
          | (refine CallK.intro (hlc) (by simp) (by simp) ?_; try simp )
          | (refine CallG.intro (fun _ => hlc) (by simp) (by simp) ?_; try simp )
          | ((with_reducible refine PreK.intro ?_ ?_); (next => (first | omega | (intros; first | omega | (refine ⟨by omega, ?_⟩; repeat (first | assumption | constructor)) | assumption))); intro _; try simp )
          | fail)
        cases L2
        · have e3 : oneR false U = ([], false) := rfl
          rw [e3]
          try simp 
          repeat (refine PreK.intro (by first | omega | (intros; first | omega | (refine ⟨by omega, ?_⟩; simp_all; done) | (simp_all; done) | (simp_all; omega))) fun _ => ?_; (try simp ))
          refine CondK.tt ?_
          try simp 
          try simp 
          repeat' (first
            | ((with_reducible refine PreK.intro ?_ ?_); (next => (first | omega | (intros; first | omega | (refine ⟨by omega, ?_⟩; repeat (first | assumption | constructor)) | assumption))); intro _; try simp )
            | fail)
        · by_cases hu : U.length = 1
          · have e3 : oneR true U = (el U 0, true) := by simp [oneR, hu]
            rw [e3]
            have hu0 : 0 < U.length := by omega
            have hui : (U.length : Int) = 1 := by omega
            try simp [hu, hui]
            repeat (refine PreK.intro (by first | omega | (intros; first | omega | (refine ⟨by omega, ?_⟩; simp_all; done) | (simp_all; done) | (simp_all; omega))) fun _ => ?_; (try simp [hu, hui]))
            refine CondK.ff ?_
            try simp 
            try simp [hu, hui, hu0]
            repeat (refine PreK.intro (by first | omega | (intros; first | omega | (refine ⟨by omega, ?_⟩; simp_all; done) | (simp_all; done) | (simp_all; omega))) fun _ => ?_; (try simp [hu, hui, hu0]))
          · have e3 : oneR true U = ([], false) := by simp [oneR, hu]
            rw [e3]
            have hui : ¬ (U.length : Int) = 1 := by omega
            try simp [hu, hui]
            repeat (refine PreK.intro (by first | omega | (intros; first | omega | (refine ⟨by omega, ?_⟩; simp_all; done) | (simp_all; done) | (simp_all; omega))) fun _ => ?_; (try simp [hu, hui]))
            refine CondK.tt ?_
            try simp 
            try simp 
            repeat' (first
              | ((with_reducible refine PreK.intro ?_ ?_); (next => (first | omega | (intros; first | omega | (refine ⟨by omega, ?_⟩; repeat (first | assumption | constructor)) | assumption))); intro _; try simp )
              | fail)
  · have e1 : reachedV s w = .tup [.raw (.pointer none), iv (swErr s w)] := by simp [reachedV, h1]
    rw [e1] at hrc
    have e2 : OneE s w = ([], false, swErr s w) := by simp [OneE, h1]
    rw [e2]
    simp [A30]
    try simp 
    repeat' (first
      | (refine CallX.pure (hrc) (by simp) (by simp) ?_; try simp )
      | (refine CallK.intro (hrc) (by simp) (by simp) ?_; try simp )
      | (refine CallG.intro (fun _ => hrc) (by simp) (by simp) ?_; try simp )
      | ((with_reducible refine PreK.intro ?_ ?_); (next => (first | omega | (intros; first | omega | (refine ⟨by omega, ?_⟩; repeat (first | assumption | constructor)) | assumption))); intro _; try simp )
      | fail)
    refine CondK.intro (fun h2 => ?_) (fun h2 => ?_)
    · try simp 
      repeat' (first
        | ((with_reducible refine PreK.intro ?_ ?_); (next => (first | omega | (intros; first | omega | (refine ⟨by omega, ?_⟩; repeat (first | assumption | constructor)) | assumption))); intro _; try simp )
        | fail)
    · simp at h2
      exact absurd h2 h1
/-- A calm word whose steps do not go on for ever has one end. -/
theorem allOK_of {s : List Rule} {w : Word} {g : Gr} (h : reachG s w = some g) : AllOK (nxP s) w g.ws := by
  obtain ⟨h1, h2⟩ := closed_mem h
  exact ⟨h1 0 w .zero, h2, h1⟩
theorem nodup_of {s : List Rule} {w : Word} {g : Gr} (h : reachG s w = some g) : g.ws.Nodup := by
  have h1 := reachG_F s w
  rw [h] at h1
  cases hc : closeM (nxP s) w with
  | none => rw [hc] at h1; exact h1.elim
  | some ws =>
    rw [hc] at h1
    rw [h1.words]
    exact (closeM_some hc).nodup
theorem end_iff {s : List Rule} {u : Word} : isEndM s u = true ↔ nxP s u = [] := by
  unfold isEndM nxP
  simp
theorem calm_law {s : List Rule} {w : Word} (h : (CalmE s w).2 = 0) : (OneE s w).2.2 = 0 ∧ (ForeverE s w).2 = 0 ∧ ((CalmE s w).1 = true → (ForeverE s w).1 = false → (OneE s w).2.1 = true) := by
  unfold CalmE at h ⊢
  unfold OneE ForeverE LongestE
  by_cases h0 : swErr s w = 0
  · simp only [h0, ne_eq, not_true_eq_false, if_false] at h ⊢
    cases hg : reachG s w with
    | none => rw [hg] at h; cases h
    | some g =>
      dsimp only
      have hok := reachG_ok h0 hg
      refine ⟨rfl, rfl, fun hc hf => ?_⟩
      have hl : (LongestG s g).2 = true := by simpa using hf
      have hL := longestG_spec hg hok
      rw [hl] at hL
      have hcalm := (calm_iff (allOK_of hg) (nodup_of hg) (rowsG_for hok (shut_of hg))).1 hc
      obtain ⟨e, k, hr, he, hall⟩ := calm_one hcalm hL
      have hmem : ∀ z, z ∈ uniq (g.ws.filter (isEndM s)) ↔ z = e := by
        intro z
        rw [(uniq_sorted _).2, List.mem_filter]
        constructor
        · rintro ⟨h1, h2⟩
          obtain ⟨j, hj⟩ := (closed_mem hg).2 z h1
          exact hall j z hj (end_iff.1 h2)
        · rintro rfl
          exact ⟨(closed_mem hg).1 k z hr, end_iff.2 he⟩
      have hone : (uniq (g.ws.filter (isEndM s))).length = 1 := by
        have hs := (uniq_sorted (g.ws.filter (isEndM s))).1
        generalize uniq (g.ws.filter (isEndM s)) = U at hs hmem
        match U, hs, hmem with
        | [], _, hm => exact absurd ((hm e).2 rfl) (by simp)
        | [x], _, _ => rfl
        | x :: y :: l, hs, hm =>
          have hx := (hm x).1 (by simp)
          have hy := (hm y).1 (by simp)
          subst hx
          subst hy
          have := (List.pairwise_cons.1 hs).1 y (by simp)
          rw [bef_irr] at this
          cases this
      simp [oneR, hl, hone]
  · simp only [h0, ne_eq, not_false_eq_true, if_true] at h
end Go.Proofs.YtkhddecnllcaiaaGreat
end

section
/- Contracts: the document's IsCalm and One; the statement FeedCalms. -/
namespace Go.Proofs.YtkhddecnllcaiaaGreat
open Go.Abs Go
set_option maxRecDepth 20000
set_option maxHeartbeats 2000000
attribute [local irreducible] PreK CondK CallK CallG CallX LoopK
attribute [local simp] avsEq avEq akind teq vkind vEq

noncomputable def rCalmE (s : List Rule) (w : Word) : Bool × Int := if swErr s w ≠ 0 then (false, swErr s w) else match rreachG s w with
  | none => (false, 3)
  | some g => (calmB g.nx, 0)
theorem rrows_for {s : List Rule} {w : Word} {g : RG} (h : rreachG s w = some g) : RowsFor (nxR s) g.ws g.nx := by
  obtain ⟨_, _, h3, h4⟩ := rclosed h
  refine ⟨h3, fun i hi q hq => ?_, fun i hi x hx => ?_⟩
  · obtain ⟨a1, a2⟩ := h4 i hi
    obtain ⟨p, hp, rfl⟩ := mem_el hq
    obtain ⟨k, k1, k2, k3⟩ := a2 p (by omega)
    refine ⟨k, k1, k2, ?_⟩
    rw [k3]
    exact el_mem_of _ p (by omega)
  · obtain ⟨a1, a2⟩ := h4 i hi
    obtain ⟨p, hp, rfl⟩ := mem_el hx
    obtain ⟨k, k1, k2, k3⟩ := a2 p hp
    refine ⟨k, k2, k3, ?_⟩
    rw [← k1]
    exact el_mem_of _ p (by omega)
theorem rnodup_of {s : List Rule} {w : Word} {g : RG} (h : rreachG s w = some g) : g.ws.Nodup := by
  have h1 := rreachG_F s w
  rw [h] at h1
  cases hc : closeM (nxR s) w with
  | none => rw [hc] at h1; exact h1.elim
  | some ws =>
    rw [hc] at h1
    obtain ⟨hd, _⟩ := h1
    rw [hd.words]
    exact (closeM_some hc).nodup
theorem calmR_congr {nx nx' : Word → List Word} (he : ∀ v x, x ∈ nx v ↔ x ∈ nx' v) {w : Word} (h : CalmR nx w) : CalmR nx' w := by
  intro n u hu x hx y hy
  obtain ⟨a, b, z, h1, h2⟩ := h n u (hu.congr fun v x => (he v x).symm) x ((he u x).2 hx) y ((he u y).2 hy)
  exact ⟨a, b, z, h1.congr he, h2.congr he⟩
theorem calm_same (s : List Rule) (w : Word) : rCalmE s w = CalmE s w := by
  unfold rCalmE CalmE
  by_cases h0 : swErr s w = 0
  · rw [if_neg (by simp [h0]), if_neg (by simp [h0])]
    have h := graphs_same s w
    cases hg : reachG s w with
    | none =>
      cases hr : rreachG s w with
      | none => rfl
      | some r => rw [hg, hr] at h; exact h.elim
    | some g =>
      cases hr : rreachG s w with
      | none => rw [hg, hr] at h; exact h.elim
      | some r =>
        dsimp only
        have hok := reachG_ok h0 hg
        have h1 := calm_iff (allOK_of hg) (nodup_of hg) (rowsG_for hok (shut_of hg))
        have h2 := calm_iff (rclosed hr).1 (rnodup_of hr) (rrows_for hr)
        have : calmB r.nx = calmB (rowsG s g) := by
          rw [Bool.eq_iff_iff, h1, h2]
          exact ⟨calmR_congr fun v x => mem_nxR, calmR_congr fun v x => mem_nxR.symm⟩
        rw [this]
  · rw [if_pos h0, if_pos h0]
theorem rIsCalm_some (s : List Rule) (w : List Int) (g : RG) (h : RowsOK g) (hgc : CallP Tryz.prog 37 [rulesV s, ints w] (.tup [rgraphV g, iv 0])) : CallP Tryz.prog 29 [rulesV s, ints w] (.tup [bv (calmB g.nx), iv 0]) := by
  refine C29 (by simp) ?_
  have hnum := h.num
  have hlen := h.len
  have hrng : Rng g.nx := fun j hj p hp => by
    obtain ⟨h1, h2⟩ := h.lt j hj p hp
    exact ⟨(el (el g.nx j) p).toNat, by omega, by omega⟩
  have hrow : ∀ j, j < g.nx.length → (el g.nx j).length ≤ 100 := fun j hj => by have := h.row j hj; omega
  have hcl := rclosure_c g hnum hlen hrng hrow
  have hpd : (List.range g.ws.length).map (fun k => bools (cloB g.nx k)) = partsL g.nx g.ws.length := rfl
  rw [hpd] at hcl
  have hpl := partsL_len g.nx g.ws.length
  simp only [rgraphV] at hgc hcl
  generalize hC : calmB g.nx = C
  simp [A29]
  try simp 
  repeat' (first
    | (refine CallX.pure (hgc) (by simp) (by simp) ?_; try simp )
    | (refine CallK.intro (hgc) (by simp) (by simp) ?_; try simp )
    | (refine CallG.intro (fun _ => hgc) (by simp) (by simp) ?_; try simp )
    | ((with_reducible refine PreK.intro ?_ ?_); (next => (first | omega | (intros; first | omega | (refine ⟨by omega, ?_⟩; repeat (first | assumption | constructor)) | assumption))); intro _; try simp )
    | fail)
  refine CondK.intro (fun h1 => ?_) (fun h1 => ?_)
  · simp at h1
  · try simp 
    repeat' (first
      | (refine CallX.pure (hcl) (by simp) (by simp) ?_; try simp )
      | (refine CallK.intro (hcl) (by simp) (by simp) ?_; try simp )
      | (refine CallG.intro (fun _ => hcl) (by simp) (by simp) ?_; try simp )
      | ((with_reducible refine PreK.intro ?_ ?_); (next => (first | omega | (intros; first | omega | (refine ⟨by omega, ?_⟩; repeat (first | assumption | constructor)) | assumption))); intro _; try simp )
      | fail)
    refine LoopK.by (ι := Nat) (fun r => ⟨[(9, iv r), (8, .seq 1 (partsL g.nx g.ws.length) false), (6, .pt 6 1 0 0)], [(6, some ⟨3, [rgraphV g], 1, true⟩)]⟩) (fun r => g.ws.length - r)
      (fun r => r ≤ g.ws.length ∧ ∀ r', r' < r → ∀ i, i < (el g.nx r').length → ∀ k, k < i → commonB (cloB g.nx (el (el g.nx r') i).toNat) (cloB g.nx (el (el g.nx r') k).toNat) = true)
      0 ⟨Nat.zero_le _, fun r' h => absurd h (Nat.not_lt_zero _)⟩ (by simp [rgraphV]) ?_
    intro r Q3 ⟨hr3, hall⟩ hq3 he3 hr4
    simp only [rgraphV]
    try simp 
    refine CondK.intro (fun h4 => ?_) (fun h4 => ?_)
    · simp at h4
      have h4r : r < g.nx.length := by omega
      have hrr := hrng r h4r
      have hrl2 := hrow r h4r
      try simp [h4, h4r]
      repeat (refine PreK.intro (by first | omega | (intros; first | omega | (refine ⟨by omega, ?_⟩; simp_all; done) | (simp_all; done) | (simp_all; omega))) fun _ => ?_; (try simp [h4, h4r]))
      generalize hrw : el g.nx r = row at hrr hrl2
      try simp [h4, h4r, hrw]
      repeat (refine PreK.intro (by first | omega | (intros; first | omega | (refine ⟨by omega, ?_⟩; simp_all; done) | (simp_all; done) | (simp_all; omega))) fun _ => ?_; (try simp [h4, h4r, hrw]))
      refine LoopK.by (ι := Nat) (fun i => ⟨[(11, iv i), (10, ints row), (9, iv r), (8, .seq 1 (partsL g.nx g.ws.length) false), (6, .pt 6 1 0 0)], [(6, some ⟨3, [rgraphV g], 1, true⟩)]⟩) (fun i => row.length + 1 - i)
        (fun i => (i = 1 ∨ i ≤ row.length) ∧ ∀ i', i' < i → ∀ k, k < i' → commonB (cloB g.nx (el row i').toNat) (cloB g.nx (el row k).toNat) = true)
        1 ⟨.inl rfl, fun i' h k hk => by omega⟩ (by simp [rgraphV]) ?_
      intro i Q4 ⟨hi4, hall4⟩ hq4 he4 hr5
      simp only [rgraphV]
      try simp 
      refine CondK.intro (fun h5 => ?_) (fun h5 => ?_)
      · simp at h5
        try simp [h5]
        repeat (refine PreK.intro (by first | omega | (intros; first | omega | (refine ⟨by omega, ?_⟩; simp_all; done) | (simp_all; done) | (simp_all; omega))) fun _ => ?_; (try simp [h5]))
        refine LoopK.by (ι := Nat) (fun k => ⟨[(12, iv k), (11, iv i), (10, ints row), (9, iv r), (8, .seq 1 (partsL g.nx g.ws.length) false), (6, .pt 6 1 0 0)], [(6, some ⟨3, [rgraphV g], 1, true⟩)]⟩) (fun k => i - k)
          (fun k => k ≤ i ∧ ∀ k', k' < k → commonB (cloB g.nx (el row i).toNat) (cloB g.nx (el row k').toNat) = true)
          0 ⟨Nat.zero_le _, fun r' h => absurd h (Nat.not_lt_zero _)⟩ (by simp [rgraphV]) ?_
        intro k Q5 ⟨hk5, hall5⟩ hq5 he5 hr6
        simp only [rgraphV]
        try simp 
        refine CondK.intro (fun h6 => ?_) (fun h6 => ?_)
        · simp at h6
          have hk6 : k < row.length := by omega
          obtain ⟨a, ea, ha⟩ := hrr i h5
          obtain ⟨b, eb, hb⟩ := hrr k hk6
          have a0 : (0 : Int) ≤ el row i := by omega
          have a1 : (el row i).toNat = a := by omega
          have a2 : el row i < (g.ws.length : Int) := by omega
          have b0 : (0 : Int) ≤ el row k := by omega
          have b1 : (el row k).toNat = b := by omega
          have b2 : el row k < (g.ws.length : Int) := by omega
          have pa := partsL_nth g.nx g.ws.length a (by omega)
          have pb := partsL_nth g.nx g.ws.length b (by omega)
          simp only [bools] at pa pb
          have hcm := rcommon_c (cloB g.nx a) (cloB g.nx b) (by rw [cloB_len]; omega) (by rw [cloB_len, cloB_len])
          have hca : a < g.ws.length := by omega
          have hcb : b < g.ws.length := by omega
          try simp [h5, hk6, a0, a1, a2, b0, b1, b2, pa, pb, hpl, hca, hcb]
          repeat (refine PreK.intro (by first | omega | (intros; first | omega | (refine ⟨by omega, ?_⟩; simp_all; done) | (simp_all; done) | (simp_all; omega))) fun _ => ?_; (try simp [h5, hk6, a0, a1, a2, b0, b1, b2, pa, pb, hpl, hca, hcb]))
          refine CallK.intro (by simpa using hcm) (by simp) (by simp) ?_
          try simp 
          repeat (refine PreK.intro (by first | omega | (intros; first | omega | (refine ⟨by omega, ?_⟩; simp_all; done) | (simp_all; done) | (simp_all; omega))) fun _ => ?_; (try simp ))
          refine CondK.intro (fun h7 => ?_) (fun h7 => ?_)
          · have hf : commonB (cloB g.nx a) (cloB g.nx b) = false := by (try simp at h7); simpa using h7
            have hno : C = false := hC ▸ calm_not (r := r) (i := i) (k := k) h4r (by rw [hrw]; exact h5) h6 (by rw [hrw, a1, b1]; exact hf)
            subst hno
            try simp 
            apply hr6
            try simp 
            apply hr5
            try simp 
            apply hr4
            try simp 
          · have hf : commonB (cloB g.nx a) (cloB g.nx b) = true := by (try simp at h7); simpa using h7
            try simp 
            repeat (refine PreK.intro (by first | omega | (intros; first | omega | (refine ⟨by omega, ?_⟩; simp_all; done) | (simp_all; done) | (simp_all; omega))) fun _ => ?_; (try simp ))
            refine hq5 (k + 1) _ ⟨by omega, fun k' hk' => ?_⟩ (by omega) (by simp [rgraphV])
            by_cases e : k' = k
            · subst e; rw [a1, b1]; exact hf
            · exact hall5 k' (by omega)
        · simp at h6
          have hke : k = i := by omega
          subst hke
          try simp 
          apply he5
          try simp 
          repeat (refine PreK.intro (by first | omega | (intros; first | omega | (refine ⟨by omega, ?_⟩; simp_all; done) | (simp_all; done) | (simp_all; omega))) fun _ => ?_; (try simp ))
          refine hq4 (k + 1) _ ⟨by omega, fun i' hi' => ?_⟩ (by omega) (by simp [rgraphV])
          by_cases e : i' = k
          · subst e; exact hall5
          · exact hall4 i' (by omega)
      · simp at h5
        try simp 
        apply he4
        try simp 
        repeat (refine PreK.intro (by first | omega | (intros; first | omega | (refine ⟨by omega, ?_⟩; simp_all; done) | (simp_all; done) | (simp_all; omega))) fun _ => ?_; (try simp ))
        refine hq3 (r + 1) _ ⟨by omega, fun r' hr' => ?_⟩ (by omega) (by simp [rgraphV])
        by_cases e : r' = r
        · subst e; rw [hrw]
          exact fun i' hi' => hall4 i' (by omega)
        · exact hall r' (by omega)
    · simp at h4
      have hre : r = g.ws.length := by omega
      subst hre
      have hyes : C = true := hC ▸ calm_all.2 fun r hr i hi k hk => hall r (by omega) i hi k hk
      subst hyes
      try simp 
      apply he3
      try simp 
      repeat (refine PreK.intro (by first | omega | (intros; first | omega | (refine ⟨by omega, ?_⟩; simp_all; done) | (simp_all; done) | (simp_all; omega))) fun _ => ?_; (try simp ))
theorem rIsCalm_c (s : List Rule) (w : List Int) (h : Sys.small s) (hw : w.length ≤ 1000) : CallP Tryz.prog 29 [rulesV s, ints w] (.tup [bv (rCalmE s w).1, iv (rCalmE s w).2]) := by
  have hgc := graphed_c s w h hw
  unfold rgraphedV at hgc
  unfold rCalmE
  by_cases h0 : swErr s w = 0
  · simp only [h0, ne_eq, not_true_eq_false, if_false] at hgc ⊢
    cases hg : rreachG s w with
    | none =>
      rw [hg] at hgc
      simp only [rzeroV] at hgc
      refine C29 (by simp) ?_
      simp [A29]
      try simp 
      repeat' (first
        | (refine CallX.pure (hgc) (by simp) (by simp) ?_; try simp )
        | (refine CallK.intro (hgc) (by simp) (by simp) ?_; try simp )
        | (refine CallG.intro (fun _ => hgc) (by simp) (by simp) ?_; try simp )
        | ((with_reducible refine PreK.intro ?_ ?_); (next => (first | omega | (intros; first | omega | (refine ⟨by omega, ?_⟩; repeat (first | assumption | constructor)) | assumption))); intro _; try simp )
        | fail)
      refine CondK.intro (fun h2 => ?_) (fun h2 => ?_)
      · try simp 
        repeat' (first
          | ((with_reducible refine PreK.intro ?_ ?_); (next => (first | omega | (intros; first | omega | (refine ⟨by omega, ?_⟩; repeat (first | assumption | constructor)) | assumption))); intro _; try simp )
          | fail)
      · simp at h2
    | some g =>
      rw [hg] at hgc
      exact rIsCalm_some s w g (rowsOK_of (swErr_zero h0).1 hg (rreachG_ok h0 hg)) hgc
  · simp only [h0, ne_eq, not_false_eq_true, if_true] at hgc ⊢
    simp only [rzeroV] at hgc
    refine C29 (by simp) ?_
    simp [A29]
    try simp 
    repeat' (first
      | (refine CallX.pure (hgc) (by simp) (by simp) ?_; try simp )
      | (refine CallK.intro (hgc) (by simp) (by simp) ?_; try simp )
      | (refine CallG.intro (fun _ => hgc) (by simp) (by simp) ?_; try simp )
      | ((with_reducible refine PreK.intro ?_ ?_); (next => (first | omega | (intros; first | omega | (refine ⟨by omega, ?_⟩; repeat (first | assumption | constructor)) | assumption))); intro _; try simp )
      | fail)
    refine CondK.intro (fun h2 => ?_) (fun h2 => ?_)
    · try simp 
      repeat' (first
        | ((with_reducible refine PreK.intro ?_ ?_); (next => (first | omega | (intros; first | omega | (refine ⟨by omega, ?_⟩; repeat (first | assumption | constructor)) | assumption))); intro _; try simp )
        | fail)
    · simp at h2
      exact absurd h2 h0
theorem rOne_c (s : List Rule) (w : List Int) (h : Sys.small s) (hw : w.length ≤ 1000) : CallP Tryz.prog 31 [rulesV s, ints w] (.tup [ints (OneE s w).1, bv (OneE s w).2.1, iv (OneE s w).2.2]) := by
  have hgc := graphed_c s w h hw
  have hes := ends_same s w
  have hls := longest_same s w
  have hgs := graphs_same s w
  unfold rgraphedV at hgc
  unfold OneE
  refine C31 (by simp) ?_
  by_cases h0 : swErr s w = 0
  · simp only [h0, ne_eq, not_true_eq_false, if_false] at hgc ⊢
    cases hr : rreachG s w with
    | none =>
      cases hg : reachG s w with
      | some g => rw [hg, hr] at hgs; exact hgs.elim
      | none =>
        rw [hr] at hgc
        simp only [rzeroV] at hgc
        dsimp only
        simp [A31]
        try simp 
        repeat' (first
          | (refine CallX.pure (hgc) (by simp) (by simp) ?_; try simp )
          | (refine CallK.intro (hgc) (by simp) (by simp) ?_; try simp )
          | (refine CallG.intro (fun _ => hgc) (by simp) (by simp) ?_; try simp )
          | ((with_reducible refine PreK.intro ?_ ?_); (next => (first | omega | (intros; first | omega | (refine ⟨by omega, ?_⟩; repeat (first | assumption | constructor)) | assumption))); intro _; try simp )
          | fail)
        refine CondK.intro (fun h2 => ?_) (fun h2 => ?_)
        · try simp 
          repeat' (first
            | ((with_reducible refine PreK.intro ?_ ?_); (next => (first | omega | (intros; first | omega | (refine ⟨by omega, ?_⟩; repeat (first | assumption | constructor)) | assumption))); intro _; try simp )
            | fail)
        · simp at h2
    | some g =>
      cases hg : reachG s w with
      | none => rw [hg, hr] at hgs; exact hgs.elim
      | some g' =>
        rw [hr] at hgc
        have hok := rreachG_ok h0 hr
        have hro := rowsOK_of (swErr_zero h0).1 hr hok
        have eE : insA [] (rendsF g 0 g.ws.length) = uniq (g'.ws.filter (isEndM s)) := by
          have := hes
          simp only [rEndsE, EndsE, h0, hr, hg, ne_eq, not_true_eq_false, if_false, Prod.mk.injEq, and_true] at this
          exact this
        have eL : rLongestG g = LongestG s g' := by
          have := hls
          simp only [rLongestE, LongestE, h0, hr, hg, ne_eq, not_true_eq_false, if_false, Prod.mk.injEq, and_true] at this
          exact Prod.ext this.1 this.2
        have hl := rlongest_c g hro
        have he := rends_c g hro hok
        rw [eE] at he
        rw [eL] at hl
        dsimp only
        have hU8 : ∀ x ∈ uniq (g'.ws.filter (isEndM s)), x.length ≤ 8 := fun x hx => (wordErr_zero ((reachG_ok h0 hg).fine x (List.mem_filter.1 (((uniq_sorted _).2 x).1 hx)).1)).1
        generalize uniq (g'.ws.filter (isEndM s)) = U at he hU8
        generalize LongestG s g' = L at hl
        obtain ⟨L1, L2⟩ := L
        dsimp only at hl
        simp only [rgraphV] at hgc hl he
        simp [A31]
        try simp 
        repeat' (first
          | (refine CallX.pure (hgc) (by simp) (by simp) ?_; try simp )
          | (refine CallK.intro (hgc) (by simp) (by simp) ?_; try simp )
          | (refine CallG.intro (fun _ => hgc) (by simp) (by simp) ?_; try simp )
          | ((with_reducible refine PreK.intro ?_ ?_); (next => (first | omega | (intros; first | omega | (refine ⟨by omega, ?_⟩; repeat (first | assumption | constructor)) | assumption))); intro _; try simp )
          | fail)
        refine CondK.intro (fun h2 => ?_) (fun h2 => ?_)
        · simp at h2
        · try simp 
          repeat' (first
            | (refine CallX.pure (hl) (by simp) (by simp) ?_; try simp )
            | (refine CallK.intro (hl) (by simp) (by simp) ?_; try simp )
            | (refine CallG.intro (fun _ => hl) (by simp) (by simp) ?_; try simp )
            | (refine CallX.pure (he) (by simp) (by simp) ?_; try simp )
            | (refine CallK.intro (he) (by simp) (by simp) ?_; try simp )
            | (refine CallG.intro (fun _ => he) (by simp) (by simp) ?_; try simp )
            | ((with_reducible refine PreK.intro ?_ ?_); (next => (first | omega | (intros; first | omega | (refine ⟨by omega, ?_⟩; repeat (first | assumption | constructor)) | assumption))); intro _; try simp )
            | fail)
          cases L2
          · have e3 : oneR false U = ([], false) := rfl
            rw [e3]
            try simp 
            repeat (refine PreK.intro (by first | omega | (intros; first | omega | (refine ⟨by omega, ?_⟩; simp_all; done) | (simp_all; done) | (simp_all; omega))) fun _ => ?_; (try simp ))
            refine CondK.tt ?_
            try simp 
            try simp 
            repeat' (first
              | ((with_reducible refine PreK.intro ?_ ?_); (next => (first | omega | (intros; first | omega | (refine ⟨by omega, ?_⟩; repeat (first | assumption | constructor)) | assumption))); intro _; try simp )
              | fail)
          · by_cases hu : U.length = 1
            · have e3 : oneR true U = (el U 0, true) := by simp [oneR, hu]
              rw [e3]
              have hu0 : 0 < U.length := by omega
              have hui : (U.length : Int) = 1 := by omega
              try simp [hu, hui]
              repeat (refine PreK.intro (by first | omega | (intros; first | omega | (refine ⟨by omega, ?_⟩; simp_all; done) | (simp_all; done) | (simp_all; omega))) fun _ => ?_; (try simp [hu, hui]))
              refine CondK.ff ?_
              try simp 
              have hel := hU8 _ (el_mem_of U 0 hu0)
              try simp [hu, hui, hu0]
              repeat (refine PreK.intro (by first | omega | (intros; first | omega | (refine ⟨by omega, ?_⟩; simp_all; done) | (simp_all; done) | (simp_all; omega))) fun _ => ?_; (try simp [hu, hui, hu0]))
            · have e3 : oneR true U = ([], false) := by simp [oneR, hu]
              rw [e3]
              have hui : ¬ (U.length : Int) = 1 := by omega
              try simp [hu, hui]
              repeat (refine PreK.intro (by first | omega | (intros; first | omega | (refine ⟨by omega, ?_⟩; simp_all; done) | (simp_all; done) | (simp_all; omega))) fun _ => ?_; (try simp [hu, hui]))
              refine CondK.tt ?_
              try simp 
              try simp 
              repeat' (first
                | ((with_reducible refine PreK.intro ?_ ?_); (next => (first | omega | (intros; first | omega | (refine ⟨by omega, ?_⟩; repeat (first | assumption | constructor)) | assumption))); intro _; try simp )
                | fail)
  · simp only [h0, ne_eq, not_false_eq_true, if_true] at hgc ⊢
    simp only [rzeroV] at hgc
    simp [A31]
    try simp 
    repeat' (first
      | (refine CallX.pure (hgc) (by simp) (by simp) ?_; try simp )
      | (refine CallK.intro (hgc) (by simp) (by simp) ?_; try simp )
      | (refine CallG.intro (fun _ => hgc) (by simp) (by simp) ?_; try simp )
      | ((with_reducible refine PreK.intro ?_ ?_); (next => (first | omega | (intros; first | omega | (refine ⟨by omega, ?_⟩; repeat (first | assumption | constructor)) | assumption))); intro _; try simp )
      | fail)
    refine CondK.intro (fun h2 => ?_) (fun h2 => ?_)
    · try simp 
      repeat' (first
        | ((with_reducible refine PreK.intro ?_ ?_); (next => (first | omega | (intros; first | omega | (refine ⟨by omega, ?_⟩; repeat (first | assumption | constructor)) | assumption))); intro _; try simp )
        | fail)
    · simp at h2
      exact absurd h2 h0
theorem OneE_small {s : List Rule} {w : Word} : (OneE s w).1.length ≤ 1000 := by
  unfold OneE
  split
  · simp
  · cases hg : reachG s w with
    | none => simp
    | some g =>
      dsimp only
      unfold oneR
      split
      · rename_i h0 hc
        simp only [Bool.and_eq_true, decide_eq_true_eq] at hc
        dsimp only
        have hm := el_mem_of (uniq (g.ws.filter (isEndM s))) 0 (by omega)
        have hmg := (List.mem_filter.1 (((uniq_sorted _).2 _).1 hm)).1
        have := (wordErr_zero ((reachG_ok (by simpa using h0) hg).fine _ hmg)).1
        omega
      · simp
theorem lawFeedCalms_c (s : List Rule) (w : List Int) (hb : s.length ≤ big) (hwb : w.length ≤ big) : CallP Tryz.prog 6 [rulesV s, ints w] (bv true) := by
  refine C6 (by simp) ?_
  simp [A6]
  refine CallX.pure (by simpa using long3_c s hb) (by simp) (by simp) ?_
  try simp 
  cases hl : longS s
  · have hs := longS_small hl
    by_cases h2 : 100 < w.length
    · try simp 
      repeat' (first
        | (refine CallX.pure (large3_c w) (by simp) (by simp) ?_; try simp )
        | (refine CallK.intro (large3_c w) (by simp) (by simp) ?_; try simp )
        | (refine CallG.intro (fun _ => large3_c w) (by simp) (by simp) ?_; try simp )
        | ((with_reducible refine PreK.intro ?_ ?_); (next => (first | omega | (intros; first | omega | (refine ⟨by omega, ?_⟩; repeat (first | assumption | constructor)) | assumption))); intro _; try simp )
        | fail)
      refine CondK.intro (fun h3 => ?_) (fun h3 => ?_)
      · try simp 
        repeat' (first
          | (refine CallX.pure (known_c) (by simp) (by simp) ?_; try simp )
          | (refine CallK.intro (known_c) (by simp) (by simp) ?_; try simp )
          | (refine CallG.intro (fun _ => known_c) (by simp) (by simp) ?_; try simp )
          | ((with_reducible refine PreK.intro ?_ ?_); (next => (first | omega | (intros; first | omega | (refine ⟨by omega, ?_⟩; repeat (first | assumption | constructor)) | assumption))); intro _; try simp )
          | fail)
      · simp at h3; omega
    · try simp 
      repeat' (first
        | (refine CallX.pure (large3_c w) (by simp) (by simp) ?_; try simp )
        | (refine CallK.intro (large3_c w) (by simp) (by simp) ?_; try simp )
        | (refine CallG.intro (fun _ => large3_c w) (by simp) (by simp) ?_; try simp )
        | ((with_reducible refine PreK.intro ?_ ?_); (next => (first | omega | (intros; first | omega | (refine ⟨by omega, ?_⟩; repeat (first | assumption | constructor)) | assumption))); intro _; try simp )
        | fail)
      refine CondK.intro (fun h3 => ?_) (fun h3 => ?_)
      · simp at h3; omega
      · have hw : w.length ≤ 1000 := by omega
        have h4 := IsCalm_c s w hs hw
        have h5 := rIsCalm_c s w hs hw
        rw [calm_same] at h5
        have h6 := One_c s w hs hw
        have h7 := rOne_c s w hs hw
        have h8 := Forever_c s w hs hw
        have h9 := same1_c (OneE s w).1 (OneE s w).1 (big_of OneE_small)
        have hF : (CalmE s w).2 = 0 → (OneE s w).2.2 = 0 ∧ (ForeverE s w).2 = 0 ∧ ((CalmE s w).1 = true → (ForeverE s w).1 = false → (OneE s w).2.1 = true) := calm_law
        generalize CalmE s w = C at *
        generalize OneE s w = O at *
        generalize ForeverE s w = V at *
        obtain ⟨C1, C2⟩ := C
        obtain ⟨O1, O2, O3⟩ := O
        obtain ⟨V1, V2⟩ := V
        dsimp only at *
        try simp 
        repeat' (first
          | (refine CallX.pure (h4) (by simp) (by simp) ?_; try simp )
          | (refine CallK.intro (h4) (by simp) (by simp) ?_; try simp )
          | (refine CallG.intro (fun _ => h4) (by simp) (by simp) ?_; try simp )
          | (refine CallX.pure (h5) (by simp) (by simp) ?_; try simp )
          | (refine CallK.intro (h5) (by simp) (by simp) ?_; try simp )
          | (refine CallG.intro (fun _ => h5) (by simp) (by simp) ?_; try simp )
          | (refine CallX.pure (h6) (by simp) (by simp) ?_; try simp )
          | (refine CallK.intro (h6) (by simp) (by simp) ?_; try simp )
          | (refine CallG.intro (fun _ => h6) (by simp) (by simp) ?_; try simp )
          | (refine CallX.pure (h7) (by simp) (by simp) ?_; try simp )
          | (refine CallK.intro (h7) (by simp) (by simp) ?_; try simp )
          | (refine CallG.intro (fun _ => h7) (by simp) (by simp) ?_; try simp )
          | (refine CallX.pure (h9) (by simp) (by simp) ?_; try simp )
          | (refine CallK.intro (h9) (by simp) (by simp) ?_; try simp )
          | (refine CallG.intro (fun _ => h9) (by simp) (by simp) ?_; try simp )
          | ((with_reducible refine PreK.intro ?_ ?_); (next => (first | omega | (intros; first | omega | (refine ⟨by omega, ?_⟩; repeat (first | assumption | constructor)) | assumption))); intro _; try simp )
          | fail)
        refine CondK.intro (fun h10 => ?_) (fun h10 => ?_)
        · simp at h10
        · try simp 
          repeat' (first
            | (refine CallX.pure (h8) (by simp) (by simp) ?_; try simp )
            | (refine CallK.intro (h8) (by simp) (by simp) ?_; try simp )
            | (refine CallG.intro (fun _ => h8) (by simp) (by simp) ?_; try simp )
            | ((with_reducible refine PreK.intro ?_ ?_); (next => (first | omega | (intros; first | omega | (refine ⟨by omega, ?_⟩; repeat (first | assumption | constructor)) | assumption))); intro _; try simp )
            | fail)
          by_cases h0 : C2 = 0
          · obtain ⟨f1, f2, f3⟩ := hF h0
            subst h0; subst f2
            cases C1
            · try simp 
              repeat' (first
                | (refine CallX.pure (known_c) (by simp) (by simp) ?_; try simp )
                | (refine CallK.intro (known_c) (by simp) (by simp) ?_; try simp )
                | (refine CallG.intro (fun _ => known_c) (by simp) (by simp) ?_; try simp )
                | ((with_reducible refine PreK.intro ?_ ?_); (next => (first | omega | (intros; first | omega | (refine ⟨by omega, ?_⟩; repeat (first | assumption | constructor)) | assumption))); intro _; try simp )
                | fail)
            · cases V1
              · have f4 := f3 rfl rfl
                subst f4
                try simp 
                repeat' (first
                  | (refine CallX.pure (known_c) (by simp) (by simp) ?_; try simp )
                  | (refine CallK.intro (known_c) (by simp) (by simp) ?_; try simp )
                  | (refine CallG.intro (fun _ => known_c) (by simp) (by simp) ?_; try simp )
                  | ((with_reducible refine PreK.intro ?_ ?_); (next => (first | omega | (intros; first | omega | (refine ⟨by omega, ?_⟩; repeat (first | assumption | constructor)) | assumption))); intro _; try simp )
                  | fail)
              · try simp 
                repeat' (first
                  | (refine CallX.pure (known_c) (by simp) (by simp) ?_; try simp )
                  | (refine CallK.intro (known_c) (by simp) (by simp) ?_; try simp )
                  | (refine CallG.intro (fun _ => known_c) (by simp) (by simp) ?_; try simp )
                  | ((with_reducible refine PreK.intro ?_ ?_); (next => (first | omega | (intros; first | omega | (refine ⟨by omega, ?_⟩; repeat (first | assumption | constructor)) | assumption))); intro _; try simp )
                  | fail)
          · try simp [h0]
            repeat' (first
              | (refine CallX.pure (known_c) (by simp) (by simp) ?_; try simp [h0])
              | (refine CallK.intro (known_c) (by simp) (by simp) ?_; try simp [h0])
              | (refine CallG.intro (fun _ => known_c) (by simp) (by simp) ?_; try simp [h0])
              | ((with_reducible refine PreK.intro ?_ ?_); (next => (first | omega | (intros; first | omega | (refine ⟨by omega, ?_⟩; repeat (first | assumption | constructor)) | assumption))); intro _; try simp [h0])
              | fail)
  · try simp 
    repeat' (first
      | ((with_reducible refine PreK.intro ?_ ?_); (next => (first | omega | (intros; first | omega | (refine ⟨by omega, ?_⟩; repeat (first | assumption | constructor)) | assumption))); intro _; try simp )
      | fail)
    refine CallG.intro (r := bv true) (fun hh => by cases hh) (by simp) (by simp) ?_
    try simp 
    refine CondK.intro (fun h3 => ?_) (fun h3 => ?_)
    · try simp 
      repeat' (first
        | (refine CallX.pure (known_c) (by simp) (by simp) ?_; try simp )
        | (refine CallK.intro (known_c) (by simp) (by simp) ?_; try simp )
        | (refine CallG.intro (fun _ => known_c) (by simp) (by simp) ?_; try simp )
        | ((with_reducible refine PreK.intro ?_ ?_); (next => (first | omega | (intros; first | omega | (refine ⟨by omega, ?_⟩; repeat (first | assumption | constructor)) | assumption))); intro _; try simp )
        | fail)
    · simp at h3
end Go.Proofs.YtkhddecnllcaiaaGreat
end
