/- Part 6 of the proof: the value layer and the contracts of the functions that the statement reaches; proved without conditions beyond those each theorem states. -/
import Derived.Test.YtkhddecnllcaiaaGreatV4
import Derived.Test.YtkhddecnllcaiaaGreatV5
set_option linter.unusedSimpArgs false
set_option linter.unusedVariables false

section
/- Contracts: the reference's Reach; the statement FeedReaches. -/
namespace Go.Proofs.YtkhddecnllcaiaaGreat
open Go.Abs Go
set_option maxRecDepth 20000
set_option maxHeartbeats 2000000
attribute [local irreducible] PreK CondK CallK CallG CallX LoopK
attribute [local simp] avsEq avEq akind teq vkind vEq

theorem rcloseG_ok {s : List Rule} (hs : sysErr s = 0) : ∀ {n i : Nat} {g g' : RG}, g.ok → i ≤ g.ws.length → rcloseG s n i g = some g' → g'.ok
  | 0, i, g, g', h, _, e => by
    simp only [rcloseG, Option.some.injEq] at e
    subst e; exact h
  | n + 1, i, g, g', h, hi, e => by
    rw [rcloseG] at e
    split at e
    · rename_i hi2
      have hu := h.fine _ (el_mem_of g.ws i hi2)
      have hm : ∀ x ∈ nxR s (el g.ws i), wordErr x = 0 := by
        intro x hx
        obtain ⟨m, hm, rfl⟩ := List.mem_map.1 (mem_nxR.1 hx)
        exact moves_right hs hu hm
      have key : ∀ (l : List Word) (ws : List Word) (fr ls : List Int) (nx : List (List Int)) (q : List Word × List Int × List Int), (∀ x ∈ l, wordErr x = 0) → RG.ok ⟨ws, nx, fr⟩ → i < ws.length → el fr i = el g.far i →
          raddG (el g.far i + 1) ws fr ls l = some q → RG.ok ⟨q.1, nx, q.2.1⟩ ∧ i < q.1.length := by
        intro l
        induction l with
        | nil =>
          intro ws fr ls nx q _ hok hi3 _ hq
          simp only [raddG, Option.some.injEq] at hq
          subst hq; exact ⟨hok, hi3⟩
        | cons v l ih =>
          intro ws fr ls nx q hl hok hi3 hfi hq
          rw [raddG] at hq
          split at hq
          · split at hq
            · cases hq
            · rename_i h3
              have hnum := hok.num
              dsimp only at hnum
              have hp := hok.push (w := v) (i := i) (hl v (by simp)) (by dsimp only; omega) hi3
              dsimp only at hp
              rw [hfi] at hp
              refine ih _ _ _ nx q (fun x hx => hl x (by simp [hx])) hp (by simp; omega) ?_ hq
              rw [el_app_left _ _ (by have := hok.far; dsimp only at this; omega)]
              exact hfi
          · exact ih _ _ _ nx q (fun x hx => hl x (by simp [hx])) hok hi3 hfi hq
      cases ha : raddG (el g.far i + 1) g.ws g.far [] (nxR s (el g.ws i)) with
      | none => rw [ha] at e; cases e
      | some q =>
        obtain ⟨q1, q2, q3⟩ := q
        rw [ha] at e
        obtain ⟨k1, k2⟩ := key _ _ _ _ g.nx _ hm ⟨h.fine, h.num, h.far, h.low⟩ hi2 rfl ha
        exact rcloseG_ok (g := ⟨q1, g.nx ++ [q3], q2⟩) hs ⟨k1.fine, k1.num, k1.far, k1.low⟩ (by dsimp only at k2 ⊢; omega) e
    · simp only [Option.some.injEq] at e
      subst e; exact h
theorem rreachG_ok {s : List Rule} {w : Word} {g : RG} (h : swErr s w = 0) (e : rreachG s w = some g) : g.ok := by
  refine rcloseG_ok (swErr_zero h).1 ⟨by simpa using (swErr_zero h).2, by simp, rfl, fun j hj => ?_⟩ (Nat.zero_le _) e
  simp at hj
  subst hj
  simp [el]
def rgraphedV (s : List Rule) (w : Word) : AV := if swErr s w ≠ 0 then .tup [rzeroV, iv (swErr s w)] else match rreachG s w with
  | none => .tup [rzeroV, iv 3]
  | some g => .tup [rgraphV g, iv 0]
theorem graphed_c (s : List Rule) (w : List Int) (h : Sys.small s) (hw : w.length ≤ 1000) : CallP Tryz.prog 37 [rulesV s, ints w] (rgraphedV s w) := by
  refine C37 (by simp) ?_
  have hck := rworded_c s w [] h hw (by simp)
  rw [check_nil] at hck
  simp [A37]
  try simp 
  repeat' (first
    | (refine CallX.pure (hck) (by simp) (by simp) ?_; try simp )
    | (refine CallK.intro (hck) (by simp) (by simp) ?_; try simp )
    | (refine CallG.intro (fun _ => hck) (by simp) (by simp) ?_; try simp )
    | ((with_reducible refine PreK.intro ?_ ?_); (next => (first | omega | (intros; first | omega | (refine ⟨by omega, ?_⟩; repeat (first | assumption | constructor)) | assumption))); intro _; try simp )
    | fail)
  refine CondK.intro (fun h1 => ?_) (fun h1 => ?_)
  · simp at h1
    simp [rgraphedV, h1, rzeroV]
  · simp at h1
    have hx := reached_x s w h (swErr_zero h1).1 (swErr_zero h1).2
    have e : rgraphedV s w = match rreachG s w with | none => .tup [rzeroV, iv 3] | some g => .tup [rgraphV g, iv 0] := by simp [rgraphedV, h1]
    rw [e]
    cases hg : rreachG s w with
    | none =>
      rw [hg] at hx
      simp only [rreachV, rzeroV] at hx ⊢
      try simp 
      repeat' (first
        | (refine CallX.pure (hx) (by simp) (by simp) ?_; try simp )
        | (refine CallK.intro (hx) (by simp) (by simp) ?_; try simp )
        | (refine CallG.intro (fun _ => hx) (by simp) (by simp) ?_; try simp )
        | ((with_reducible refine PreK.intro ?_ ?_); (next => (first | omega | (intros; first | omega | (refine ⟨by omega, ?_⟩; repeat (first | assumption | constructor)) | assumption))); intro _; try simp )
        | fail)
      refine CondK.intro (fun h2 => ?_) (fun h2 => ?_)
      · try simp 
        repeat' (first
          | ((with_reducible refine PreK.intro ?_ ?_); (next => (first | omega | (intros; first | omega | (refine ⟨by omega, ?_⟩; repeat (first | assumption | constructor)) | assumption))); intro _; try simp )
          | fail)
      · simp at h2
    | some g =>
      rw [hg] at hx
      simp only [rreachV, rgraphV] at hx ⊢
      try simp 
      repeat' (first
        | (refine CallX.pure (hx) (by simp) (by simp) ?_; try simp )
        | (refine CallK.intro (hx) (by simp) (by simp) ?_; try simp )
        | (refine CallG.intro (fun _ => hx) (by simp) (by simp) ?_; try simp )
        | ((with_reducible refine PreK.intro ?_ ?_); (next => (first | omega | (intros; first | omega | (refine ⟨by omega, ?_⟩; repeat (first | assumption | constructor)) | assumption))); intro _; try simp )
        | fail)
      refine CondK.intro (fun h2 => ?_) (fun h2 => ?_)
      · simp at h2
      · try simp 
        repeat' (first
          | ((with_reducible refine PreK.intro ?_ ?_); (next => (first | omega | (intros; first | omega | (refine ⟨by omega, ?_⟩; repeat (first | assumption | constructor)) | assumption))); intro _; try simp )
          | fail)
theorem ReachE_small {s : List Rule} {w : Word} : (ReachE s w).1.length ≤ 1000 ∧ ∀ x ∈ (ReachE s w).1, x.length ≤ 1000 := by
  unfold ReachE
  by_cases h0 : swErr s w = 0
  · simp only [h0, ne_eq, not_true_eq_false, if_false]
    cases hg : reachG s w with
    | none => simp
    | some g =>
      have hok := reachG_ok h0 hg
      have hnum := hok.num
      have h1 := uniq_len g.ws
      dsimp only
      refine ⟨by omega, fun x hx => ?_⟩
      have := (wordErr_zero (hok.fine x (((uniq_sorted g.ws).2 x).1 hx))).1
      omega
  · simp [h0]
def partB (a b : List Word) : Bool := a.all fun x => b.any fun y => decide (x = y)
theorem part_c (a b : List Word) (ha : a.length ≤ 1000) (hb : b.length ≤ 1000) (hwa : ∀ x ∈ a, x.length ≤ 1000) : CallP Tryz.prog 15 [wordsV a, wordsV b] (bv (partB a b)) := by
  refine C15 (by simp) ?_
  generalize hR : partB a b = R
  unfold partB at hR
  simp [A15]
  refine LoopK.by (fun i : Nat => ⟨[(5, iv i), (0, wordsV a), (1, wordsV b)], []⟩) (fun i => a.length - i) (fun i => i ≤ a.length ∧ ((a.drop i).all fun x => b.any fun y => decide (x = y)) = R) 0 (by simpa using hR) (by simp) ?_
  intro i Q' ⟨hi, hc⟩ hq he hr
  try simp 
  refine CondK.intro (fun h1 => ?_) (fun h1 => ?_)
  · simp at h1
    have hxl := hwa _ (el_mem_of a i h1)
    rw [drop_cons a i h1, List.all_cons] at hc
    generalize hB : (b.any fun y => decide (el a i = y)) = B at hc
    try simp 
    refine LoopK.by (ι := Nat × Bool) (fun x => ⟨[(7, iv x.1), (6, bv x.2), (5, iv i), (0, wordsV a), (1, wordsV b)], []⟩) (fun x => b.length - x.1) (fun x => x.1 ≤ b.length ∧ (x.2 || ((b.drop x.1).any fun y => decide (el a i = y))) = B) (0, false) (by simpa using hB) (by simp) ?_
    intro ⟨k, d⟩ Q'' ⟨hk, hd⟩ hq' he' hr'
    dsimp only at hk hd
    try simp 
    refine CondK.intro (fun h2 => ?_) (fun h2 => ?_)
    · simp at h2
      rw [drop_cons b k h2, List.any_cons] at hd
      cases d
      · try simp [h1, h2]
        repeat (refine PreK.intro (by first | omega | (intros; first | omega | (refine ⟨by omega, ?_⟩; simp_all; done) | (simp_all; done) | (simp_all; omega))) fun _ => ?_; (try simp [h1, h2]))
        refine CallG.intro (r := bv (decide (el a i = el b k))) (fun _ => by simpa [h1, h2] using same1_c (el a i) (el b k) (big_of hxl)) (by simp) (by simp) ?_
        try simp 
        try simp 
        repeat (refine PreK.intro (by first | omega | (intros; first | omega | (refine ⟨by omega, ?_⟩; simp_all; done) | (simp_all; done) | (simp_all; omega))) fun _ => ?_; (try simp ))
        exact hq' (k + 1, decide (el a i = el b k)) _ ⟨by dsimp only; omega, by simpa using hd⟩ (by dsimp only; omega) (by simp)
      · try simp [h1, h2]
        repeat (refine PreK.intro (by first | omega | (intros; first | omega | (refine ⟨by omega, ?_⟩; simp_all; done) | (simp_all; done) | (simp_all; omega))) fun _ => ?_; (try simp [h1, h2]))
        refine CallG.intro (r := bv true) (fun hh => by cases hh) (by simp) (by simp) ?_
        try simp 
        try simp 
        repeat (refine PreK.intro (by first | omega | (intros; first | omega | (refine ⟨by omega, ?_⟩; simp_all; done) | (simp_all; done) | (simp_all; omega))) fun _ => ?_; (try simp ))
        exact hq' (k + 1, true) _ ⟨by dsimp only; omega, by simpa using hd⟩ (by dsimp only; omega) (by simp)
    · simp at h2
      rw [List.drop_eq_nil_of_le (by omega)] at hd
      simp at hd
      subst hd
      try simp 
      apply he'
      try simp 
      repeat' (first
        | ((with_reducible refine PreK.intro ?_ ?_); (next => (first | omega | (intros; first | omega | (refine ⟨by omega, ?_⟩; repeat (first | assumption | constructor)) | assumption))); intro _; try simp )
        | fail)
      refine CondK.intro (fun h3 => ?_) (fun h3 => ?_)
      · simp at h3
        rw [h3] at hc
        simp at hc
        try simp 
        apply hr
        simp [← hc]
      · simp at h3
        rw [h3] at hc
        simp only [Bool.true_and] at hc
        try simp 
        repeat' (first
          | ((with_reducible refine PreK.intro ?_ ?_); (next => (first | omega | (intros; first | omega | (refine ⟨by omega, ?_⟩; repeat (first | assumption | constructor)) | assumption))); intro _; try simp )
          | fail)
        exact hq (i + 1) _ ⟨by omega, hc⟩ (by omega) (by simp)
  · simp at h1
    rw [List.drop_eq_nil_of_le (by omega)] at hc
    simp at hc
    try simp 
    apply he
    simp [← hc]
end Go.Proofs.YtkhddecnllcaiaaGreat
end

section
/- Plain: the reference's longest walk, found in rounds over the edges of its graph. -/
namespace Go.Proofs.YtkhddecnllcaiaaGreat
open Go.Abs Go

def rowE (i : Nat) (l : List Int) : List (Nat × Nat) := l.map fun j => (i, j.toNat)
def edgesF : Nat → List (List Int) → List (Nat × Nat)
  | _, [] => []
  | i, l :: r => rowE i l ++ edgesF (i + 1) r
theorem edgesF_mem : ∀ {r : List (List Int)} {i : Nat} {e : Nat × Nat}, e ∈ edgesF i r ↔ ∃ j, j < r.length ∧ e.1 = i + j ∧ ∃ x ∈ el r j, e.2 = x.toNat
  | [], i, e => by simp [edgesF]
  | l :: r, i, e => by
    rw [edgesF, List.mem_append, edgesF_mem]
    constructor
    · rintro (h | ⟨j, h1, h2, x, h3, h4⟩)
      · obtain ⟨x, hx, rfl⟩ := List.mem_map.1 h
        exact ⟨0, by simp, rfl, x, by simpa [el] using hx, rfl⟩
      · exact ⟨j + 1, by simpa using h1, by omega, x, by simpa [el] using h3, h4⟩
    · rintro ⟨j, h1, h2, x, h3, h4⟩
      cases j with
      | zero =>
        left
        refine List.mem_map.2 ⟨x, by simpa [el] using h3, ?_⟩
        apply Prod.ext
        · simp [h2]
        · exact h4.symm
      | succ j => exact .inr ⟨j, by simpa using h1, by omega, x, by simpa [el] using h3, h4⟩
theorem rclosed {s : List Rule} {w : Word} {g : RG} (h : rreachG s w = some g) : AllOK (nxR s) w g.ws ∧ EdgesOK (nxR s) g.ws (edgesF 0 g.nx) ∧ g.nx.length = g.ws.length ∧ (∀ j, j < g.ws.length → atsOf g.ws (el g.nx j) (nxR s (el g.ws j))) := by
  have h1 := rreachG_F s w
  rw [h] at h1
  cases hc : closeM (nxR s) w with
  | none => rw [hc] at h1; exact h1.elim
  | some ws =>
    rw [hc] at h1
    obtain ⟨hd, _⟩ := h1
    have hcl := closeM_some hc
    have hlen : g.ws.length = ws.length := by rw [hd.words]; simp
    have hall : ∀ n x, ReachN (nxR s) w n x → x ∈ g.ws := fun n x hx => by
      obtain ⟨z, hz, e, _⟩ := hcl.all n x hx
      rw [hd.words]
      exact List.mem_map.2 ⟨z, hz, e⟩
    have hats : ∀ j, j < g.ws.length → atsOf g.ws (el g.nx j) (nxR s (el g.ws j)) := fun j hj => hd.nx j (by omega)
    refine ⟨⟨hall 0 w .zero, fun x hx => ?_, hall⟩, ⟨fun e he => ?_, fun i hi x hx => ?_⟩, by rw [hd.num, hlen], hats⟩
    · rw [hd.words] at hx
      obtain ⟨y, hy, rfl⟩ := List.mem_map.1 hx
      exact ⟨_, hcl.reach y hy⟩
    · obtain ⟨j, h1, h2, x, h3, h4⟩ := edgesF_mem.1 he
      have hj : j < g.ws.length := by rw [hd.num] at h1; omega
      obtain ⟨a1, a2⟩ := hats j hj
      obtain ⟨q, hq, rfl⟩ := List.getElem_of_mem h3
      obtain ⟨k, k1, k2, k3⟩ := a2 q (by omega)
      rw [el_eq _ q hq] at k1
      have e1 : e.1 = j := by omega
      have e2 : e.2 = k := by omega
      rw [e1, e2]
      refine ⟨hj, k2, ?_⟩
      rw [k3]
      exact el_mem_of _ q (by omega)
    · obtain ⟨a1, a2⟩ := hats i hi
      obtain ⟨q, hq, rfl⟩ := List.getElem_of_mem hx
      obtain ⟨k, k1, k2, k3⟩ := a2 q hq
      refine ⟨k, edgesF_mem.2 ⟨i, by rw [hd.num]; omega, by simp, el (el g.nx i) q, el_mem_of _ q (by omega), by omega⟩, ?_⟩
      rw [k3, el_eq _ q hq]
end Go.Proofs.YtkhddecnllcaiaaGreat
end

section
/- Functions of the cut as the value layer reads them. (written by gen.py) -/
set_option maxRecDepth 20000
namespace Go.Proofs.YtkhddecnllcaiaaGreat
open Go.Abs Go

def A38 : ACode :=
  (.seq (.reg [] [⟨some 1, (.box 53 (.tmp 0)), 0, none⟩,
      ⟨some 2, (.assign (.const (.slice none 0 0))), 27, none⟩])
    (.seq (.reg [] [⟨some 3, (.assign (.const (.slice none 0 0))), 27, none⟩])
    (.seq (.seq (.reg [] [⟨some 4, (.assign (.const (.int .i64 0))), 3, none⟩])
    (.block 0 (.loop (.seq (.seq (.reg [] [⟨some 5, (.move (.tmp 4)), 3, none⟩,
      ⟨some 6, (.fieldAddr 53 (.tmp 1) 0), 0, none⟩,
      ⟨some 7, (.load 27 (.tmp 6)), 27, none⟩,
      ⟨some 8, (.call ⟨(.builtin .len), #[(.tmp 7)], #[27]⟩), 3, none⟩,
      ⟨some 9, (.binOp .lss 3 (.tmp 5) (.tmp 8) 3), 4, none⟩])
    (.cond (.tmp 9)
    .skip
    (.exit 0)))
    (.seq (.block 1 (.seq (.reg [] [⟨some 12, (.fieldAddr 53 (.tmp 1) 1), 0, none⟩,
      ⟨some 13, (.load 27 (.tmp 12)), 27, none⟩,
      ⟨some 14, (.move (.tmp 4)), 3, none⟩,
      ⟨some 15, (.indexAddr 27 (.tmp 13) (.tmp 14)), 0, none⟩,
      ⟨some 16, (.load 23 (.tmp 15)), 23, none⟩,
      ⟨some 17, (.call ⟨(.builtin .len), #[(.tmp 16)], #[23]⟩), 3, none⟩,
      ⟨some 18, (.binOp .eql 3 (.tmp 17) (.const (.int .i64 0)) 3), 4, none⟩])
    (.cond (.tmp 18)
    (.reg [] [⟨some 19, (.move (.tmp 3)), 27, none⟩,
      ⟨some 20, (.fieldAddr 53 (.tmp 1) 0), 0, none⟩,
      ⟨some 21, (.load 27 (.tmp 20)), 27, none⟩,
      ⟨some 22, (.move (.tmp 4)), 3, none⟩,
      ⟨some 23, (.indexAddr 27 (.tmp 21) (.tmp 22)), 0, none⟩,
      ⟨some 24, (.load 23 (.tmp 23)), 23, none⟩,
      ⟨some 25, (.call ⟨(.value (.func 79)), #[(.tmp 19), (.tmp 24)], #[27, 23]⟩), 27, none⟩,
      ⟨some 3, (.assign (.tmp 25)), 27, none⟩])
    .skip)))
    (.reg [] [⟨some 10, (.move (.tmp 4)), 3, none⟩,
      ⟨some 11, (.binOp .add 3 (.tmp 10) (.const (.int .i64 1)) 3), 3, none⟩,
      ⟨some 4, (.assign (.tmp 11)), 3, none⟩]))))))
    (.seq (.reg [] [⟨some 26, (.move (.tmp 3)), 27, none⟩,
      ⟨some 2, (.assign (.tmp 26)), 27, none⟩])
    .ret))))
theorem C38 {args : List AV} {r : AV} (hn : args.length ≤ 27) (h : vc Tryz.prog T [] A38 (Fin T [(.tmp 2)] r) ⟨envOf 0 args, []⟩) : CallP Tryz.prog 38 args r :=
  callP_of tok mixed Tryz.func38 (by kernel_rfl) (by kernel_rfl) (by kernel_rfl : Tryz.f38.ntmps = 27) (by kernel_rfl : Tryz.f38.body.bind (strip 27 (fun _ => [])) = some A38) hn h
def A11 : ACode :=
  (.seq (.reg [] [⟨some 4, (.assign (.const (.slice none 0 0))), 27, none⟩,
      ⟨some 5, (.assign (.const (.int .i64 0))), 28, none⟩])
    (.seq (.reg [] [⟨some 9, (.move (.tmp 0)), 22, none⟩,
      ⟨some 10, (.move (.tmp 1)), 23, none⟩,
      ⟨some 11, (.call ⟨(.value (.func 37)), #[(.tmp 9), (.tmp 10)], #[22, 23]⟩), 54, none⟩,
      ⟨some 8, (.move (.tmp 11)), 54, none⟩,
      ⟨some 12, (.extract (.tmp 8) 0), 53, none⟩,
      ⟨some 13, (.extract (.tmp 8) 1), 28, none⟩,
      ⟨some 6, (.alloc 53), 0, none⟩,
      ⟨none, (.store 53 (.tmp 6) (.tmp 12)), 0, none⟩,
      ⟨some 7, (.assign (.tmp 13)), 28, none⟩])
    (.seq (.reg [] [⟨some 14, (.load 53 (.tmp 6)), 53, none⟩,
      ⟨some 15, (.call ⟨(.value (.func 38)), #[(.tmp 14)], #[53]⟩), 27, none⟩,
      ⟨some 16, (.move (.tmp 7)), 28, none⟩,
      ⟨some 4, (.assign (.tmp 15)), 27, none⟩,
      ⟨some 5, (.assign (.tmp 16)), 28, none⟩])
    .ret)))
theorem C11 {args : List AV} {r : AV} (hn : args.length ≤ 17) (h : vc Tryz.prog T [] A11 (Fin T [(.tmp 4), (.tmp 5)] r) ⟨envOf 0 args, []⟩) : CallP Tryz.prog 11 args r :=
  callP_of tok mixed Tryz.func11 (by kernel_rfl) (by kernel_rfl) (by kernel_rfl : Tryz.f11.ntmps = 17) (by kernel_rfl : Tryz.f11.body.bind (strip 17 (fun _ => [])) = some A11) hn h
def A3 : ACode :=
  (.seq (.reg [] [⟨some 4, (.assign (.const (.bool false))), 4, none⟩])
    (.seq (.seq (.reg [] [⟨some 13, (.move (.tmp 0)), 22, none⟩,
      ⟨some 14, (.call ⟨(.value (.func 7)), #[(.tmp 13)], #[22]⟩), 4, none⟩,
      ⟨some 15, (.move (.tmp 14)), 4, none⟩,
      ⟨some 16, (.move (.tmp 1)), 23, some (15, false)⟩,
      ⟨some 17, (.call ⟨(.value (.func 8)), #[(.tmp 16)], #[23]⟩), 4, some (15, false)⟩,
      ⟨some 18, (.pick (.tmp 15) (.const (.bool true)) (.tmp 17)), 4, none⟩])
    (.cond (.tmp 18)
    (.seq (.reg [] [⟨some 19, (.call ⟨(.value (.func 9)), #[], #[]⟩), 4, none⟩,
      ⟨some 4, (.assign (.tmp 19)), 4, none⟩])
    .ret)
    .skip))
    (.seq (.reg [] [⟨some 21, (.move (.tmp 0)), 22, none⟩,
      ⟨some 22, (.move (.tmp 1)), 23, none⟩,
      ⟨some 23, (.call ⟨(.value (.func 10)), #[(.tmp 21), (.tmp 22)], #[22, 23]⟩), 29, none⟩,
      ⟨some 20, (.move (.tmp 23)), 29, none⟩,
      ⟨some 24, (.extract (.tmp 20) 0), 27, none⟩,
      ⟨some 25, (.extract (.tmp 20) 1), 28, none⟩,
      ⟨some 5, (.assign (.tmp 24)), 27, none⟩,
      ⟨some 6, (.assign (.tmp 25)), 28, none⟩])
    (.seq (.reg [] [⟨some 27, (.move (.tmp 0)), 22, none⟩,
      ⟨some 28, (.move (.tmp 1)), 23, none⟩,
      ⟨some 29, (.call ⟨(.value (.func 11)), #[(.tmp 27), (.tmp 28)], #[22, 23]⟩), 29, none⟩,
      ⟨some 26, (.move (.tmp 29)), 29, none⟩,
      ⟨some 30, (.extract (.tmp 26) 0), 27, none⟩,
      ⟨some 31, (.extract (.tmp 26) 1), 28, none⟩,
      ⟨some 7, (.assign (.tmp 30)), 27, none⟩,
      ⟨some 8, (.assign (.tmp 31)), 28, none⟩])
    (.seq (.seq (.reg [] [⟨some 32, (.move (.tmp 5)), 27, none⟩,
      ⟨some 33, (.move (.tmp 7)), 27, none⟩,
      ⟨some 34, (.call ⟨(.value (.func 12)), #[(.tmp 32), (.tmp 33)], #[27, 27]⟩), 4, none⟩,
      ⟨some 35, (.unOp .not 4 (.tmp 34)), 4, none⟩,
      ⟨some 36, (.move (.tmp 35)), 4, none⟩,
      ⟨some 37, (.move (.tmp 6)), 28, some (36, false)⟩,
      ⟨some 38, (.move (.tmp 8)), 28, some (36, false)⟩,
      ⟨some 39, (.binOp .neq 28 (.tmp 37) (.tmp 38) 28), 4, some (36, false)⟩,
      ⟨some 40, (.pick (.tmp 36) (.const (.bool true)) (.tmp 39)), 4, none⟩])
    (.cond (.tmp 40)
    (.seq (.reg [] [⟨some 4, (.assign (.const (.bool false))), 4, none⟩])
    .ret)
    .skip))
    (.seq (.reg [] [⟨some 42, (.move (.tmp 0)), 22, none⟩,
      ⟨some 43, (.move (.tmp 1)), 23, none⟩,
      ⟨some 44, (.call ⟨(.value (.func 13)), #[(.tmp 42), (.tmp 43)], #[22, 23]⟩), 29, none⟩,
      ⟨some 41, (.move (.tmp 44)), 29, none⟩,
      ⟨some 45, (.extract (.tmp 41) 0), 27, none⟩,
      ⟨some 46, (.extract (.tmp 41) 1), 28, none⟩,
      ⟨some 9, (.assign (.tmp 45)), 27, none⟩,
      ⟨some 10, (.assign (.tmp 46)), 28, none⟩])
    (.seq (.reg [] [⟨some 48, (.move (.tmp 0)), 22, none⟩,
      ⟨some 49, (.move (.tmp 1)), 23, none⟩,
      ⟨some 50, (.call ⟨(.value (.func 14)), #[(.tmp 48), (.tmp 49)], #[22, 23]⟩), 32, none⟩,
      ⟨some 47, (.move (.tmp 50)), 32, none⟩,
      ⟨some 51, (.extract (.tmp 47) 0), 4, none⟩,
      ⟨some 52, (.extract (.tmp 47) 1), 28, none⟩,
      ⟨some 11, (.assign (.tmp 51)), 4, none⟩,
      ⟨some 12, (.assign (.tmp 52)), 28, none⟩])
    (.seq (.reg [] [⟨some 53, (.move (.tmp 6)), 28, none⟩,
      ⟨some 54, (.binOp .neq 28 (.tmp 53) (.const (.int .i64 0)) 28), 4, none⟩,
      ⟨some 55, (.move (.tmp 54)), 4, none⟩,
      ⟨some 56, (.move (.tmp 10)), 28, some (55, false)⟩,
      ⟨some 57, (.binOp .eql 28 (.tmp 56) (.const (.int .i64 0)) 28), 4, some (55, false)⟩,
      ⟨some 58, (.move (.tmp 57)), 4, some (55, false)⟩,
      ⟨some 59, (.move (.tmp 12)), 28, some (58, true)⟩,
      ⟨some 60, (.binOp .eql 28 (.tmp 59) (.const (.int .i64 0)) 28), 4, some (58, true)⟩,
      ⟨some 61, (.pick (.tmp 58) (.tmp 60) (.const (.bool false))), 4, some (55, false)⟩,
      ⟨some 62, (.move (.tmp 61)), 4, some (55, false)⟩,
      ⟨some 63, (.move (.tmp 5)), 27, some (62, true)⟩,
      ⟨some 64, (.move (.tmp 9)), 27, some (62, true)⟩,
      ⟨some 65, (.call ⟨(.value (.func 15)), #[(.tmp 63), (.tmp 64)], #[27, 27]⟩), 4, some (62, true)⟩,
      ⟨some 66, (.pick (.tmp 62) (.tmp 65) (.const (.bool false))), 4, some (55, false)⟩,
      ⟨some 67, (.move (.tmp 66)), 4, some (55, false)⟩,
      ⟨some 68, (.move (.tmp 11)), 4, some (67, true)⟩,
      ⟨some 69, (.move (.tmp 68)), 4, some (67, true)⟩,
      ⟨some 70, (.move (.tmp 5)), 27, some (69, false)⟩,
      ⟨some 71, (.call ⟨(.builtin .len), #[(.tmp 70)], #[27]⟩), 3, some (69, false)⟩,
      ⟨some 72, (.binOp .gtr 3 (.tmp 71) (.const (.int .i64 0)) 3), 4, some (69, false)⟩,
      ⟨some 73, (.pick (.tmp 69) (.const (.bool true)) (.tmp 72)), 4, some (67, true)⟩,
      ⟨some 74, (.pick (.tmp 67) (.tmp 73) (.const (.bool false))), 4, some (55, false)⟩,
      ⟨some 75, (.pick (.tmp 55) (.const (.bool true)) (.tmp 74)), 4, none⟩,
      ⟨some 76, (.move (.tmp 75)), 4, none⟩,
      ⟨some 77, (.call ⟨(.value (.func 9)), #[], #[]⟩), 4, some (76, true)⟩,
      ⟨some 78, (.pick (.tmp 76) (.tmp 77) (.const (.bool false))), 4, none⟩,
      ⟨some 4, (.assign (.tmp 78)), 4, none⟩])
    .ret))))))))
theorem C3 {args : List AV} {r : AV} (hn : args.length ≤ 79) (h : vc Tryz.prog T [] A3 (Fin T [(.tmp 4)] r) ⟨envOf 0 args, []⟩) : CallP Tryz.prog 3 args r :=
  callP_of tok mixed Tryz.func3 (by kernel_rfl) (by kernel_rfl) (by kernel_rfl : Tryz.f3.ntmps = 79) (by kernel_rfl : Tryz.f3.body.bind (strip 79 (fun _ => [])) = some A3) hn h

end Go.Proofs.YtkhddecnllcaiaaGreat
end

section
/- Contracts: the reference's longest walk. -/
namespace Go.Proofs.YtkhddecnllcaiaaGreat
open Go.Abs Go
set_option maxRecDepth 20000
set_option maxHeartbeats 2000000
attribute [local irreducible] PreK CondK CallK CallG CallX LoopK
attribute [local simp] avsEq avEq akind teq vkind vEq

/-- What the loops know of the graph. -/
structure RowsOK (g : RG) : Prop where
  num : g.ws.length ≤ 300
  len : g.nx.length = g.ws.length
  row : ∀ j, j < g.nx.length → (el g.nx j).length ≤ 54
  lt : ∀ j, j < g.nx.length → ∀ q, q < (el g.nx j).length → 0 ≤ el (el g.nx j) q ∧ el (el g.nx j) q < g.ws.length
theorem rowsOK_of {s : List Rule} {w : Word} {g : RG} (hs : sysErr s = 0) (h : rreachG s w = some g) (hok : g.ok) : RowsOK g := by
  obtain ⟨_, _, h3, h4⟩ := rclosed h
  refine ⟨hok.num, h3, fun j hj => ?_, fun j hj q hq => ?_⟩
  · have hj2 : j < g.ws.length := by omega
    have h5 := (h4 j hj2).1
    have h6 := insA_len (nxP s (el g.ws j)) []
    have h7 := movesM_len hs (hok.fine _ (el_mem_of g.ws j hj2))
    have h8 : (nxP s (el g.ws j)).length = (movesM s (el g.ws j)).length := by simp [nxP]
    unfold nxR at h5
    simp only [List.length_nil] at h6
    omega
  · have hj2 : j < g.ws.length := by omega
    obtain ⟨a1, a2⟩ := h4 j hj2
    obtain ⟨k, k1, k2, _⟩ := a2 q (by omega)
    omega
end Go.Proofs.YtkhddecnllcaiaaGreat
end

section
/- Contracts: Longest and Forever on both sides; the statement FeedForever. -/
namespace Go.Proofs.YtkhddecnllcaiaaGreat
open Go.Abs Go
set_option maxRecDepth 20000
set_option maxHeartbeats 2000000
attribute [local irreducible] PreK CondK CallK CallG CallX LoopK
attribute [local simp] avsEq avEq akind teq vkind vEq

def ForeverE (s : List Rule) (w : Word) : Bool × Int := (decide ((LongestE s w).2.2 = 0) && !(LongestE s w).2.1, (LongestE s w).2.2)
theorem Forever_c (s : List Rule) (w : List Int) (h : Sys.small s) (hw : w.length ≤ 1000) : CallP Tryz.prog 14 [rulesV s, ints w] (.tup [bv (ForeverE s w).1, iv (ForeverE s w).2]) := by
  refine C14 (by simp) ?_
  have hrc := reached_c s w h hw
  by_cases h1 : swErr s w = 0
  · have e1 : reachedV s w = reachV s (reachG s w) := by simp [reachedV, h1]
    rw [e1] at hrc
    cases hg : reachG s w with
    | none =>
      rw [hg] at hrc
      have e2 : ForeverE s w = (false, 3) := by simp [ForeverE, LongestE, h1, hg]
      rw [e2]
      simp only [reachV] at hrc
      simp [A14]
      try simp 
      repeat' (first
        | (refine CallX.pure (hrc) (by simp) (by simp) ?_; try simp )
        | (refine CallK.intro (hrc) (by simp) (by simp) ?_; try simp )
        | (refine CallG.intro (fun _ => hrc) (by simp) (by simp) ?_; try simp )
        | ((with_reducible refine PreK.intro ?_ ?_); (next => (first | omega | (intros; first | omega | (refine ⟨by omega, ?_⟩; repeat (first | assumption | constructor)) | assumption))); intro _; try simp )
        | fail)
      refine CondK.intro (fun h2 => ?_) (fun h2 => ?_)
      · try simp 
        repeat' (first
          | ((with_reducible refine PreK.intro ?_ ?_); (next => (first | omega | (intros; first | omega | (refine ⟨by omega, ?_⟩; repeat (first | assumption | constructor)) | assumption))); intro _; try simp )
          | fail)
      · simp at h2
    | some g =>
      rw [hg] at hrc
      have hec := longest_c s g h (swErr_zero h1).1 (reachG_ok h1 hg) (shut_of hg)
      have e2 : ForeverE s w = (!(LongestG s g).2, 0) := by simp [ForeverE, LongestE, h1, hg]
      rw [e2]
      simp only [reachV, graphV] at hrc
      simp only [graphV] at hec
      generalize LongestG s g = L at hec
      simp [A14]
      try simp 
      repeat' (first
        | (refine CallX.pure (hrc) (by simp) (by simp) ?_; try simp )
        | (refine CallK.intro (hrc) (by simp) (by simp) ?_; try simp )
        | (refine CallG.intro (fun _ => hrc) (by simp) (by simp) ?_; try simp )
        | ((with_reducible refine PreK.intro ?_ ?_); (next => (first | omega | (intros; first | omega | (refine ⟨by omega, ?_⟩; repeat (first | assumption | constructor)) | assumption))); intro _; try simp )
        | fail)
      refine CondK.intro (fun h2 => ?_) (fun h2 => ?_)
      · simp at h2
      · try simp 
        repeat' (first
          | (refine CallX.pure (hec) (by simp) (by simp) ?_; try simp )
          | (refine CallK.intro (hec) (by simp) (by simp) ?_; try simp )
          | (refine CallG.intro (fun _ => hec) (by simp) (by simp) ?_; try simp )
          | ((with_reducible refine PreK.intro ?_ ?_); (next => (first | omega | (intros; first | omega | (refine ⟨by omega, ?_⟩; repeat (first | assumption | constructor)) | assumption))); intro _; try simp )
          | fail)
  · have e1 : reachedV s w = .tup [.raw (.pointer none), iv (swErr s w)] := by simp [reachedV, h1]
    rw [e1] at hrc
    have e2 : ForeverE s w = (false, swErr s w) := by simp [ForeverE, LongestE, h1]
    rw [e2]
    simp [A14]
    try simp 
    repeat' (first
      | (refine CallX.pure (hrc) (by simp) (by simp) ?_; try simp )
      | (refine CallK.intro (hrc) (by simp) (by simp) ?_; try simp )
      | (refine CallG.intro (fun _ => hrc) (by simp) (by simp) ?_; try simp )
      | ((with_reducible refine PreK.intro ?_ ?_); (next => (first | omega | (intros; first | omega | (refine ⟨by omega, ?_⟩; repeat (first | assumption | constructor)) | assumption))); intro _; try simp )
      | fail)
    refine CondK.intro (fun h2 => ?_) (fun h2 => ?_)
    · try simp 
      repeat' (first
        | ((with_reducible refine PreK.intro ?_ ?_); (next => (first | omega | (intros; first | omega | (refine ⟨by omega, ?_⟩; repeat (first | assumption | constructor)) | assumption))); intro _; try simp )
        | fail)
    · simp at h2
      exact absurd h2 h1
end Go.Proofs.YtkhddecnllcaiaaGreat
end

section
/- Contracts: the ends in the document; the statement FeedEnds. -/
namespace Go.Proofs.YtkhddecnllcaiaaGreat
open Go.Abs Go
set_option maxRecDepth 20000
set_option maxHeartbeats 2000000
attribute [local irreducible] PreK CondK CallK CallG CallX LoopK
attribute [local simp] avsEq avEq akind teq vkind vEq

/-- The words of a graph from which no edge goes. -/
def rendsF (g : RG) : Nat → Nat → List Word
  | _, 0 => []
  | i, n + 1 => if (el g.nx i).length = 0 then el g.ws i :: rendsF g (i + 1) n else rendsF g (i + 1) n
theorem rendsF_mem {g : RG} : ∀ {n i : Nat} {x : Word}, x ∈ rendsF g i n ↔ ∃ j, i ≤ j ∧ j < i + n ∧ (el g.nx j).length = 0 ∧ x = el g.ws j
  | 0, i, x => by
    simp only [rendsF, List.not_mem_nil, false_iff]
    rintro ⟨j, h1, h2, _⟩
    omega
  | n + 1, i, x => by
    rw [rendsF]
    split
    · rename_i h0
      rw [List.mem_cons, rendsF_mem]
      constructor
      · rintro (h | ⟨j, h1, h2, h3, h4⟩)
        · exact ⟨i, Nat.le_refl i, by omega, h0, h⟩
        · exact ⟨j, by omega, by omega, h3, h4⟩
      · rintro ⟨j, h1, h2, h3, h4⟩
        by_cases e : j = i
        · subst e; exact .inl h4
        · exact .inr ⟨j, by omega, by omega, h3, h4⟩
    · rename_i h0
      rw [rendsF_mem]
      constructor
      · rintro ⟨j, h1, h2, h3, h4⟩
        exact ⟨j, by omega, by omega, h3, h4⟩
      · rintro ⟨j, h1, h2, h3, h4⟩
        by_cases e : j = i
        · subst e; exact absurd h3 h0
        · exact ⟨j, by omega, by omega, h3, h4⟩
theorem rends_c (g : RG) (h : RowsOK g) (hok : g.ok) : CallP Tryz.prog 38 [rgraphV g] (wordsV (insA [] (rendsF g 0 g.ws.length))) := by
  refine C38 (by simp) ?_
  have hnum := hok.num
  have hlen := h.len
  have hws : ∀ x ∈ g.ws, x.length ≤ 8 := fun x hx => (wordErr_zero (hok.fine x hx)).1
  generalize hR : insA [] (rendsF g 0 g.ws.length) = R
  simp [A38, rgraphV]
  repeat (refine PreK.intro (by first | omega | (intros; first | omega | (refine ⟨by omega, ?_⟩; simp_all; done) | (simp_all; done) | (simp_all; omega))) fun _ => ?_; (try simp ))
  refine LoopK.frz 3 (b := ⟨1, [], 1, false⟩) (by simp) (by simp) ?_
  refine LoopK.by (ι := Nat × List Word) (fun x => ⟨[(4, iv x.1), (3, wordsV x.2), (1, .pt 1 1 0 0)], [(1, some ⟨3, [rgraphV g], 1, true⟩)]⟩) (fun x => g.ws.length - x.1)
    (fun x => x.1 ≤ g.ws.length ∧ x.2.length ≤ x.1 ∧ (∀ y ∈ x.2, y.length ≤ 8) ∧ insA x.2 (rendsF g x.1 (g.ws.length - x.1)) = R) (0, []) (by simpa using hR) (by simp [rgraphV]) ?_
  intro ⟨i, acc⟩ Q' ⟨hi, ha, hy, hc⟩ hq he hr
  dsimp only at hi ha hy hc
  simp only [rgraphV]
  try simp 
  refine CondK.intro (fun h1 => ?_) (fun h1 => ?_)
  · simp at h1
    have h8 := hws _ (el_mem_of g.ws i h1)
    have h1' : i < g.nx.length := by omega
    rw [show g.ws.length - i = (g.ws.length - (i + 1)) + 1 by omega, rendsF] at hc
    repeat (refine PreK.intro (by first | omega | (intros; first | omega | (refine ⟨by omega, ?_⟩; simp_all; done) | (simp_all; done) | (simp_all; omega))) fun _ => ?_; (try simp [h1, h1']))
    refine CondK.intro (fun h2 => ?_) (fun h2 => ?_)
    · have e : (el g.nx i).length = 0 := by (try simp at h2); simpa using h2
      rw [if_pos e, insA] at hc
      try simp [h1, h1']
      repeat' (first
        | (refine CallX.pure (insert_c acc (el g.ws i) (by omega) (fun x hx => Nat.le_trans (hy x hx) (by omega)) (by omega)) (by simp) (by simp) ?_; try simp [h1, h1'])
        | (refine CallK.intro (insert_c acc (el g.ws i) (by omega) (fun x hx => Nat.le_trans (hy x hx) (by omega)) (by omega)) (by simp) (by simp) ?_; try simp [h1, h1'])
        | (refine CallG.intro (fun _ => insert_c acc (el g.ws i) (by omega) (fun x hx => Nat.le_trans (hy x hx) (by omega)) (by omega)) (by simp) (by simp) ?_; try simp [h1, h1'])
        | ((with_reducible refine PreK.intro ?_ ?_); (next => (first | omega | (intros; first | omega | (refine ⟨by omega, ?_⟩; repeat (first | assumption | constructor)) | assumption))); intro _; try simp [h1, h1'])
        | fail)
      refine hq (i + 1, insM (el g.ws i) acc) _ ⟨by dsimp only; omega, ?_, insM_words _ 8 h8 hy, hc⟩ (by dsimp only; omega) (by simp [rgraphV])
      have := insM_len (el g.ws i) acc
      dsimp only; omega
    · have e : ¬ (el g.nx i).length = 0 := by (try simp at h2); simpa using h2
      rw [if_neg e] at hc
      repeat (refine PreK.intro (by first | omega | (intros; first | omega | (refine ⟨by omega, ?_⟩; simp_all; done) | (simp_all; done) | (simp_all; omega))) fun _ => ?_; (try simp ))
      exact hq (i + 1, acc) _ ⟨by dsimp only; omega, by dsimp only; omega, hy, hc⟩ (by dsimp only; omega) (by simp [rgraphV])
  · simp at h1
    rw [show g.ws.length - i = 0 by omega, rendsF, insA] at hc
    try simp 
    apply he
    try simp 
    repeat' (first
      | ((with_reducible refine PreK.intro ?_ ?_); (next => (first | omega | (intros; first | omega | (refine ⟨by omega, ?_⟩; repeat (first | assumption | constructor)) | assumption))); intro _; try simp )
      | fail)
    simp [← hc]
def rEndsE (s : List Rule) (w : Word) : List Word × Int := if swErr s w ≠ 0 then ([], swErr s w) else match rreachG s w with
  | none => ([], 3)
  | some g => (insA [] (rendsF g 0 g.ws.length), 0)
theorem rends_zero : CallP Tryz.prog 38 [rzeroV] (wordsV []) := by
  have h := rends_c ⟨[], [], []⟩ ⟨by simp, rfl, fun j hj => by simp at hj, fun j hj => by simp at hj⟩ ⟨fun x hx => by simp at hx, by simp, rfl, fun j hj => by simp at hj⟩
  simpa [rgraphV, rzeroV, rendsF, insA] using h
theorem rEnds_c (s : List Rule) (w : List Int) (h : Sys.small s) (hw : w.length ≤ 1000) : CallP Tryz.prog 11 [rulesV s, ints w] (.tup [wordsV (rEndsE s w).1, iv (rEndsE s w).2]) := by
  refine C11 (by simp) ?_
  have hgc := graphed_c s w h hw
  have hz := rends_zero
  unfold rgraphedV at hgc
  unfold rEndsE
  by_cases h0 : swErr s w = 0
  · simp only [h0, ne_eq, not_true_eq_false, if_false] at hgc ⊢
    cases hg : rreachG s w with
    | none =>
      rw [hg] at hgc
      simp only [rzeroV] at hgc hz
      simp [A11]
      try simp 
      repeat' (first
        | (refine CallX.pure (hgc) (by simp) (by simp) ?_; try simp )
        | (refine CallK.intro (hgc) (by simp) (by simp) ?_; try simp )
        | (refine CallG.intro (fun _ => hgc) (by simp) (by simp) ?_; try simp )
        | (refine CallX.pure (hz) (by simp) (by simp) ?_; try simp )
        | (refine CallK.intro (hz) (by simp) (by simp) ?_; try simp )
        | (refine CallG.intro (fun _ => hz) (by simp) (by simp) ?_; try simp )
        | ((with_reducible refine PreK.intro ?_ ?_); (next => (first | omega | (intros; first | omega | (refine ⟨by omega, ?_⟩; repeat (first | assumption | constructor)) | assumption))); intro _; try simp )
        | fail)
    | some g =>
      rw [hg] at hgc
      have hok := rreachG_ok h0 hg
      have hl := rends_c g (rowsOK_of (swErr_zero h0).1 hg hok) hok
      dsimp only
      generalize insA [] (rendsF g 0 g.ws.length) = L at hl ⊢
      simp only [rgraphV] at hgc hl
      simp [A11]
      try simp 
      repeat' (first
        | (refine CallX.pure (hgc) (by simp) (by simp) ?_; try simp )
        | (refine CallK.intro (hgc) (by simp) (by simp) ?_; try simp )
        | (refine CallG.intro (fun _ => hgc) (by simp) (by simp) ?_; try simp )
        | (refine CallX.pure (hl) (by simp) (by simp) ?_; try simp )
        | (refine CallK.intro (hl) (by simp) (by simp) ?_; try simp )
        | (refine CallG.intro (fun _ => hl) (by simp) (by simp) ?_; try simp )
        | ((with_reducible refine PreK.intro ?_ ?_); (next => (first | omega | (intros; first | omega | (refine ⟨by omega, ?_⟩; repeat (first | assumption | constructor)) | assumption))); intro _; try simp )
        | fail)
  · simp only [h0, ne_eq, not_false_eq_true, if_true] at hgc ⊢
    simp only [rzeroV] at hgc hz
    simp [A11]
    try simp 
    repeat' (first
      | (refine CallX.pure (hgc) (by simp) (by simp) ?_; try simp )
      | (refine CallK.intro (hgc) (by simp) (by simp) ?_; try simp )
      | (refine CallG.intro (fun _ => hgc) (by simp) (by simp) ?_; try simp )
      | (refine CallX.pure (hz) (by simp) (by simp) ?_; try simp )
      | (refine CallK.intro (hz) (by simp) (by simp) ?_; try simp )
      | (refine CallG.intro (fun _ => hz) (by simp) (by simp) ?_; try simp )
      | ((with_reducible refine PreK.intro ?_ ?_); (next => (first | omega | (intros; first | omega | (refine ⟨by omega, ?_⟩; repeat (first | assumption | constructor)) | assumption))); intro _; try simp )
      | fail)
theorem ends_same (s : List Rule) (w : Word) : rEndsE s w = EndsE s w := by
  unfold rEndsE EndsE
  by_cases h0 : swErr s w = 0
  · rw [if_neg (by simp [h0]), if_neg (by simp [h0])]
    have h := graphs_same s w
    cases hg : reachG s w with
    | none =>
      cases hr : rreachG s w with
      | none => rfl
      | some r => rw [hg, hr] at h; exact h.elim
    | some g =>
      cases hr : rreachG s w with
      | none => rw [hg, hr] at h; exact h.elim
      | some r =>
        rw [hg, hr] at h
        obtain ⟨ws, rs, h1, h2, _, _, h5⟩ := h
        obtain ⟨_, _, h3, h4⟩ := rclosed hr
        dsimp only
        rw [uniq_insA (m := rendsF r 0 r.ws.length) (fun z => ?_)]
        have hmem : ∀ z, z ∈ g.ws ↔ z ∈ r.ws := fun z => by
          rw [h1.words, h2.words, List.mem_map, List.mem_map]
          exact ⟨fun ⟨y, hy, e⟩ => ⟨y, (h5 y).1 hy, e⟩, fun ⟨y, hy, e⟩ => ⟨y, (h5 y).2 hy, e⟩⟩
        have hend : ∀ z, isEndM s z = true ↔ nxR s z = [] := fun z => by
          have : nxR s z = [] ↔ nxP s z = [] := by
            constructor
            · intro e
              apply List.eq_nil_iff_forall_not_mem.2
              intro x hx
              have := mem_nxR.2 hx
              rw [e] at this; cases this
            · intro e
              apply List.eq_nil_iff_forall_not_mem.2
              intro x hx
              have := mem_nxR.1 hx
              rw [e] at this; cases this
          rw [this]
          unfold isEndM nxP
          simp
        rw [List.mem_filter, rendsF_mem, hmem]
        constructor
        · rintro ⟨hz, he⟩
          obtain ⟨q, hq, rfl⟩ := List.getElem_of_mem hz
          refine ⟨q, Nat.zero_le q, by omega, ?_, (el_eq _ q hq).symm⟩
          rw [(h4 q hq).1, el_eq _ q hq, (hend _).1 he]; rfl
        · rintro ⟨j, _, h6, h7, rfl⟩
          have hj : j < r.ws.length := by omega
          refine ⟨el_mem_of _ j hj, (hend _).2 ?_⟩
          rw [(h4 j hj).1] at h7
          exact List.eq_nil_of_length_eq_zero h7
  · rw [if_pos h0, if_pos h0]
theorem EndsE_small {s : List Rule} {w : Word} : (EndsE s w).1.length ≤ 1000 ∧ ∀ x ∈ (EndsE s w).1, x.length ≤ 1000 := by
  unfold EndsE
  by_cases h0 : swErr s w = 0
  · simp only [h0, ne_eq, not_true_eq_false, if_false]
    cases hg : reachG s w with
    | none => simp
    | some g =>
      have hok := reachG_ok h0 hg
      have hnum := hok.num
      have h1 := uniq_len (g.ws.filter (isEndM s))
      have h2 : (g.ws.filter (isEndM s)).length ≤ g.ws.length := List.length_filter_le _ _
      dsimp only
      refine ⟨by omega, fun x hx => ?_⟩
      have := (wordErr_zero (hok.fine x (List.mem_filter.1 (((uniq_sorted _).2 x).1 hx)).1)).1
      omega
  · simp [h0]
/-- The ends are reached, and there is one where steps do not go on for ever. -/
theorem ends_facts {s : List Rule} {w : Word} (h : (EndsE s w).2 = 0) : partB (EndsE s w).1 (ReachE s w).1 = true ∧ (ReachE s w).2 = 0 ∧ (ForeverE s w).2 = 0 ∧ ((ForeverE s w).1 = false → 0 < (EndsE s w).1.length) := by
  have hl := longestE_spec (s := s) (w := w)
  unfold EndsE at h ⊢
  unfold ReachE ForeverE
  unfold LongestE at hl ⊢
  by_cases h0 : swErr s w = 0
  · simp only [h0, ne_eq, not_true_eq_false, if_false] at h hl ⊢
    cases hg : reachG s w with
    | none => rw [hg] at h; cases h
    | some g =>
      rw [hg] at hl
      dsimp only at hl ⊢
      refine ⟨?_, rfl, rfl, fun hf => ?_⟩
      · unfold partB
        rw [List.all_eq_true]
        intro x hx
        have := (List.mem_filter.1 (((uniq_sorted _).2 x).1 hx)).1
        rw [List.any_eq_true]
        exact ⟨x, ((uniq_sorted _).2 x).2 this, by simp⟩
      · have hok : (LongestG s g).2 = true := by simpa using hf
        obtain ⟨⟨m, e, x, hx⟩, hmax⟩ := (hl rfl).fin hok
        have hmem := (closed_mem hg).1 m x hx
        have hend : isEndM s x = true := by
          unfold isEndM
          rw [decide_eq_true_eq]
          apply Classical.byContradiction
          intro hne
          obtain ⟨mv, hmv⟩ := List.exists_mem_of_length_pos (Nat.pos_of_ne_zero hne)
          have := hmax (m + 1) mv.word (.succ hx (List.mem_map.2 ⟨mv, hmv, rfl⟩))
          omega
        have : x ∈ uniq (g.ws.filter (isEndM s)) := ((uniq_sorted _).2 x).2 (List.mem_filter.2 ⟨hmem, hend⟩)
        exact List.length_pos_of_mem this
  · simp only [h0, ne_eq, not_false_eq_true, if_true] at h
theorem lawFeedEnds_c (s : List Rule) (w : List Int) (hb : s.length ≤ big) (hwb : w.length ≤ big) : CallP Tryz.prog 3 [rulesV s, ints w] (bv true) := by
  refine C3 (by simp) ?_
  simp [A3]
  refine CallX.pure (by simpa using long3_c s hb) (by simp) (by simp) ?_
  try simp 
  cases hl : longS s
  · have hs := longS_small hl
    by_cases h2 : 100 < w.length
    · try simp 
      repeat' (first
        | (refine CallX.pure (large3_c w) (by simp) (by simp) ?_; try simp )
        | (refine CallK.intro (large3_c w) (by simp) (by simp) ?_; try simp )
        | (refine CallG.intro (fun _ => large3_c w) (by simp) (by simp) ?_; try simp )
        | ((with_reducible refine PreK.intro ?_ ?_); (next => (first | omega | (intros; first | omega | (refine ⟨by omega, ?_⟩; repeat (first | assumption | constructor)) | assumption))); intro _; try simp )
        | fail)
      refine CondK.intro (fun h3 => ?_) (fun h3 => ?_)
      · try simp 
        repeat' (first
          | (refine CallX.pure (known_c) (by simp) (by simp) ?_; try simp )
          | (refine CallK.intro (known_c) (by simp) (by simp) ?_; try simp )
          | (refine CallG.intro (fun _ => known_c) (by simp) (by simp) ?_; try simp )
          | ((with_reducible refine PreK.intro ?_ ?_); (next => (first | omega | (intros; first | omega | (refine ⟨by omega, ?_⟩; repeat (first | assumption | constructor)) | assumption))); intro _; try simp )
          | fail)
      · simp at h3; omega
    · try simp 
      repeat' (first
        | (refine CallX.pure (large3_c w) (by simp) (by simp) ?_; try simp )
        | (refine CallK.intro (large3_c w) (by simp) (by simp) ?_; try simp )
        | (refine CallG.intro (fun _ => large3_c w) (by simp) (by simp) ?_; try simp )
        | ((with_reducible refine PreK.intro ?_ ?_); (next => (first | omega | (intros; first | omega | (refine ⟨by omega, ?_⟩; repeat (first | assumption | constructor)) | assumption))); intro _; try simp )
        | fail)
      refine CondK.intro (fun h3 => ?_) (fun h3 => ?_)
      · simp at h3; omega
      · have hw : w.length ≤ 1000 := by omega
        have h4 := Ends_c s w hs hw
        have h5 := rEnds_c s w hs hw
        rw [ends_same] at h5
        obtain ⟨n1, n2⟩ := EndsE_small (s := s) (w := w)
        obtain ⟨m1, _⟩ := ReachE_small (s := s) (w := w)
        have h6 := sameLists_c (EndsE s w).1 (EndsE s w).1 (big_of n1) (fun x hx => big_of (n2 x hx))
        have h7 := Reach_c s w hs hw
        have h8 := Forever_c s w hs hw
        have h9 := part_c (EndsE s w).1 (ReachE s w).1 n1 m1 n2
        have hF : (EndsE s w).2 = 0 → partB (EndsE s w).1 (ReachE s w).1 = true ∧ (ReachE s w).2 = 0 ∧ (ForeverE s w).2 = 0 ∧ ((ForeverE s w).1 = false → 0 < (EndsE s w).1.length) := ends_facts
        generalize EndsE s w = E at *
        generalize ReachE s w = R at *
        generalize ForeverE s w = V at *
        obtain ⟨E1, E2⟩ := E
        obtain ⟨R1, R2⟩ := R
        obtain ⟨V1, V2⟩ := V
        dsimp only at *
        try simp 
        repeat' (first
          | (refine CallX.pure (h4) (by simp) (by simp) ?_; try simp )
          | (refine CallK.intro (h4) (by simp) (by simp) ?_; try simp )
          | (refine CallG.intro (fun _ => h4) (by simp) (by simp) ?_; try simp )
          | (refine CallX.pure (h5) (by simp) (by simp) ?_; try simp )
          | (refine CallK.intro (h5) (by simp) (by simp) ?_; try simp )
          | (refine CallG.intro (fun _ => h5) (by simp) (by simp) ?_; try simp )
          | (refine CallX.pure (h6) (by simp) (by simp) ?_; try simp )
          | (refine CallK.intro (h6) (by simp) (by simp) ?_; try simp )
          | (refine CallG.intro (fun _ => h6) (by simp) (by simp) ?_; try simp )
          | ((with_reducible refine PreK.intro ?_ ?_); (next => (first | omega | (intros; first | omega | (refine ⟨by omega, ?_⟩; repeat (first | assumption | constructor)) | assumption))); intro _; try simp )
          | fail)
        refine CondK.intro (fun h10 => ?_) (fun h10 => ?_)
        · simp at h10
        · try simp 
          repeat' (first
            | (refine CallX.pure (h7) (by simp) (by simp) ?_; try simp )
            | (refine CallK.intro (h7) (by simp) (by simp) ?_; try simp )
            | (refine CallG.intro (fun _ => h7) (by simp) (by simp) ?_; try simp )
            | (refine CallX.pure (h8) (by simp) (by simp) ?_; try simp )
            | (refine CallK.intro (h8) (by simp) (by simp) ?_; try simp )
            | (refine CallG.intro (fun _ => h8) (by simp) (by simp) ?_; try simp )
            | ((with_reducible refine PreK.intro ?_ ?_); (next => (first | omega | (intros; first | omega | (refine ⟨by omega, ?_⟩; repeat (first | assumption | constructor)) | assumption))); intro _; try simp )
            | fail)
          by_cases h0 : E2 = 0
          · obtain ⟨f1, f2, f3, f4⟩ := hF h0
            subst h0; subst f2; subst f3
            rw [f1] at h9
            cases V1
            · have f5 := f4 rfl
              try simp [f5]
              repeat' (first
                | (refine CallX.pure (h9) (by simp) (by simp) ?_; try simp [f5])
                | (refine CallK.intro (h9) (by simp) (by simp) ?_; try simp [f5])
                | (refine CallG.intro (fun _ => h9) (by simp) (by simp) ?_; try simp [f5])
                | (refine CallX.pure (known_c) (by simp) (by simp) ?_; try simp [f5])
                | (refine CallK.intro (known_c) (by simp) (by simp) ?_; try simp [f5])
                | (refine CallG.intro (fun _ => known_c) (by simp) (by simp) ?_; try simp [f5])
                | ((with_reducible refine PreK.intro ?_ ?_); (next => (first | omega | (intros; first | omega | (refine ⟨by omega, ?_⟩; repeat (first | assumption | constructor)) | assumption))); intro _; try simp [f5])
                | fail)
            · try simp 
              repeat' (first
                | (refine CallX.pure (h9) (by simp) (by simp) ?_; try simp )
                | (refine CallK.intro (h9) (by simp) (by simp) ?_; try simp )
                | (refine CallG.intro (fun _ => h9) (by simp) (by simp) ?_; try simp )
                | (refine CallX.pure (known_c) (by simp) (by simp) ?_; try simp )
                | (refine CallK.intro (known_c) (by simp) (by simp) ?_; try simp )
                | (refine CallG.intro (fun _ => known_c) (by simp) (by simp) ?_; try simp )
                | ((with_reducible refine PreK.intro ?_ ?_); (next => (first | omega | (intros; first | omega | (refine ⟨by omega, ?_⟩; repeat (first | assumption | constructor)) | assumption))); intro _; try simp )
                | fail)
          · try simp 
            repeat' (first
              | ((with_reducible refine PreK.intro ?_ ?_); (next => (first | omega | (intros; first | omega | (refine ⟨by omega, ?_⟩; repeat (first | assumption | constructor)) | assumption))); intro _; try simp )
              | fail)
            refine CallG.intro (r := bv true) (fun hh => by simp [h0] at hh) (by simp [h0]) (by simp) ?_
            try simp [h0]
            repeat' (first
              | (refine CallX.pure (known_c) (by simp) (by simp) ?_; try simp [h0])
              | (refine CallK.intro (known_c) (by simp) (by simp) ?_; try simp [h0])
              | (refine CallG.intro (fun _ => known_c) (by simp) (by simp) ?_; try simp [h0])
              | ((with_reducible refine PreK.intro ?_ ?_); (next => (first | omega | (intros; first | omega | (refine ⟨by omega, ?_⟩; repeat (first | assumption | constructor)) | assumption))); intro _; try simp [h0])
              | fail)
  · try simp 
    repeat' (first
      | ((with_reducible refine PreK.intro ?_ ?_); (next => (first | omega | (intros; first | omega | (refine ⟨by omega, ?_⟩; repeat (first | assumption | constructor)) | assumption))); intro _; try simp )
      | fail)
    refine CallG.intro (r := bv true) (fun hh => by cases hh) (by simp) (by simp) ?_
    try simp 
    refine CondK.intro (fun h3 => ?_) (fun h3 => ?_)
    · try simp 
      repeat' (first
        | (refine CallX.pure (known_c) (by simp) (by simp) ?_; try simp )
        | (refine CallK.intro (known_c) (by simp) (by simp) ?_; try simp )
        | (refine CallG.intro (fun _ => known_c) (by simp) (by simp) ?_; try simp )
        | ((with_reducible refine PreK.intro ?_ ?_); (next => (first | omega | (intros; first | omega | (refine ⟨by omega, ?_⟩; repeat (first | assumption | constructor)) | assumption))); intro _; try simp )
        | fail)
    · simp at h3
end Go.Proofs.YtkhddecnllcaiaaGreat
end
