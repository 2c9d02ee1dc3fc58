/- Part 8 of the proof: the value layer and the contracts of the functions that the statement reaches; proved without conditions beyond those each theorem states. -/
import Derived.Test.YtkhddecnllcaiaaGreatV6
import Derived.Test.YtkhddecnllcaiaaGreatV7
set_option linter.unusedSimpArgs false
set_option linter.unusedVariables false

section
/- Plain: walks in a finite graph; the longest one, found in rounds and by going deep. -/
namespace Go.Proofs.YtkhddecnllcaiaaGreat
open Go.Abs Go

variable {nx : Word → List Word}
theorem ReachN.split {u v : Word} : ∀ {n m : Nat}, ReachN nx u (n + m) v → ∃ x, ReachN nx u n x ∧ ReachN nx x m v
  | n, 0, h => ⟨v, h, .zero⟩
  | n, m + 1, h => by
    cases h with
    | succ h hx =>
      obtain ⟨x, h1, h2⟩ := ReachN.split (n := n) (m := m) h
      exact ⟨x, h1, .succ h2 hx⟩
theorem ReachN.first {u v : Word} {n : Nat} (h : ReachN nx u (n + 1) v) : ∃ x, x ∈ nx u ∧ ReachN nx x n v := by
  rw [Nat.add_comm] at h
  obtain ⟨x, h1, h2⟩ := ReachN.split (n := 1) (m := n) h
  cases h1 with
  | succ h3 hx =>
    cases h3 with
    | zero => exact ⟨x, hx, h2⟩
theorem ReachN.cons {u x v : Word} {n : Nat} (hx : x ∈ nx u) (h : ReachN nx x n v) : ReachN nx u (n + 1) v := by
  have : ReachN nx u 1 x := .succ .zero hx
  have := this.trans h
  rwa [Nat.add_comm] at this
theorem ReachN.around {x : Word} {c : Nat} (h : ReachN nx x c x) : ∀ m, ReachN nx x (c * m) x
  | 0 => .zero
  | m + 1 => by rw [Nat.mul_succ]; exact (ReachN.around h m).trans h
/-- Steps go on for ever. -/
def EverR (nx : Word → List Word) (w : Word) : Prop := ∀ n, ∃ x, ReachN nx w n x
theorem ever_of_cycle {w x : Word} {k c : Nat} (h : ReachN nx w k x) (hc : 1 ≤ c) (hx : ReachN nx x c x) : EverR nx w := by
  intro n
  have h1 : ReachN nx w (k + c * n) x := h.trans (hx.around n)
  have h2 : n ≤ k + c * n := by
    have : 1 * n ≤ c * n := Nat.mul_le_mul_right n hc
    omega
  obtain ⟨d, hd⟩ : ∃ d, k + c * n = n + d := ⟨k + c * n - n, by omega⟩
  rw [hd] at h1
  obtain ⟨y, h3, _⟩ := h1.split
  exact ⟨y, h3⟩
theorem walk_list {u : Word} : ∀ {n : Nat} {v : Word}, ReachN nx u n v → ∃ l : List Word, l.length = n + 1 ∧ el l n = v ∧ (∀ i, i ≤ n → ReachN nx u i (el l i)) ∧ ∀ i j, i ≤ j → j ≤ n → ReachN nx (el l i) (j - i) (el l j)
  | 0, v, h => by
    cases h with
    | zero =>
      refine ⟨[u], rfl, rfl, fun i hi => ?_, fun i j hi hj => ?_⟩
      · have e : i = 0 := by omega
        subst e; exact .zero
      · have e : i = 0 := by omega
        have e2 : j = 0 := by omega
        subst e; subst e2; exact .zero
  | n + 1, v, h => by
    cases h with
    | succ h hx =>
      rename_i y
      obtain ⟨l, h1, h2, h3, h4⟩ := walk_list h
      have e : el (l ++ [v]) (n + 1) = v := by rw [← h1, el_app_mid]
      have e' : ∀ i, i ≤ n → el (l ++ [v]) i = el l i := fun i hi => el_app_left _ _ (by omega)
      refine ⟨l ++ [v], by simp [h1], e, fun i hi => ?_, fun i j hij hj => ?_⟩
      · by_cases hin : i ≤ n
        · rw [e' i hin]; exact h3 i hin
        · have : i = n + 1 := by omega
          subst this
          rw [e]; exact .succ h hx
      · by_cases hjn : j ≤ n
        · rw [e' i (by omega), e' j hjn]; exact h4 i j hij hjn
        · have hj1 : j = n + 1 := by omega
          subst hj1
          rw [e]
          by_cases hin : i ≤ n
          · rw [e' i hin, show n + 1 - i = (n - i) + 1 by omega]
            have := h4 i n hin (Nat.le_refl n)
            rw [h2] at this
            exact .succ this hx
          · have : i = n + 1 := by omega
            subst this
            rw [e, Nat.sub_self]; exact .zero
/-- A walk that is longer than there are words goes in a circle. -/
theorem long_ever {w : Word} {ws : List Word} (hall : ∀ n x, ReachN nx w n x → x ∈ ws) {n : Nat} {x : Word} (h : ReachN nx w n x) (hn : ws.length ≤ n) : EverR nx w := by
  obtain ⟨l, h1, _, h3, h4⟩ := walk_list h
  have hnot : ¬ l.Nodup := by
    intro hd
    have := nodup_le' (m := ws) hd fun y hy => by
      obtain ⟨i, hi, rfl⟩ := List.getElem_of_mem hy
      have := h3 i (by omega)
      rw [el_eq l i hi] at this
      exact hall _ _ this
    omega
  unfold List.Nodup at hnot
  rw [List.pairwise_iff_getElem] at hnot
  have : ∃ i j, ∃ (hi : i < l.length) (hj : j < l.length), i < j ∧ l[i] = l[j] := by
    apply Classical.byContradiction
    intro hne
    apply hnot
    intro i j hi hj hij heq
    exact hne ⟨i, j, hi, hj, hij, heq⟩
  obtain ⟨i, j, hi, hj, hij, heq⟩ := this
  have hr := h3 i (by omega)
  have hc := h4 i j (by omega) (by omega)
  rw [el_eq l i hi] at hr hc
  rw [el_eq l j hj, ← heq] at hc
  exact ever_of_cycle hr (by omega) hc
/-- The greatest number of steps, or none if they go on for ever. -/
structure LongR (nx : Word → List Word) (w : Word) (n : Int) (ok : Bool) : Prop where
  fin : ok = true → (∃ m : Nat, n = (m : Int) ∧ ∃ x, ReachN nx w m x) ∧ ∀ (m : Nat) (x : Word), ReachN nx w m x → (m : Int) ≤ n
  ever : ok = false → n = 0 ∧ EverR nx w
theorem LongR.same {w : Word} {n m : Int} {a b : Bool} (h : LongR nx w n a) (k : LongR nx w m b) : n = m ∧ a = b := by
  cases a with
  | true =>
    obtain ⟨⟨x, hx, y, hy⟩, h2⟩ := h.fin rfl
    cases b with
    | true =>
      obtain ⟨⟨x', hx', y', hy'⟩, h2'⟩ := k.fin rfl
      have := h2 _ _ hy'
      have := h2' _ _ hy
      exact ⟨by omega, rfl⟩
    | false =>
      obtain ⟨_, h3⟩ := k.ever rfl
      obtain ⟨z, hz⟩ := h3 (x + 1)
      have := h2 _ _ hz
      omega
  | false =>
    obtain ⟨h0, h3⟩ := h.ever rfl
    cases b with
    | true =>
      obtain ⟨⟨x', hx', y', hy'⟩, h2'⟩ := k.fin rfl
      obtain ⟨z, hz⟩ := h3 (x' + 1)
      have := h2' _ _ hz
      omega
    | false => exact ⟨by rw [h0, (k.ever rfl).1], rfl⟩
theorem LongR.congr {nx' : Word → List Word} (he : ∀ v x, x ∈ nx v ↔ x ∈ nx' v) {w : Word} {n : Int} {a : Bool} (h : LongR nx w n a) : LongR nx' w n a := by
  refine ⟨fun ha => ?_, fun ha => ?_⟩
  · obtain ⟨⟨m, h1, x, h2⟩, h3⟩ := h.fin ha
    exact ⟨⟨m, h1, x, h2.congr he⟩, fun k y hy => h3 k y (hy.congr fun v x => (he v x).symm)⟩
  · obtain ⟨h1, h2⟩ := h.ever ha
    exact ⟨h1, fun n => by obtain ⟨x, hx⟩ := h2 n; exact ⟨x, hx.congr he⟩⟩
/-! ### in rounds -/
/-- One edge: the end has at least one more than the beginning. -/
def relM (a : List Int × Int × Bool) (e : Nat × Nat) : List Int × Int × Bool :=
  if el a.1 e.2 < el a.1 e.1 + 1 then (a.1.set e.2 (el a.1 e.1 + 1), max a.2.1 (el a.1 e.1 + 1), true) else a
def relsM (a : List Int × Int × Bool) : List (Nat × Nat) → List Int × Int × Bool
  | [] => a
  | e :: l => relsM (relM a e) l
def relN (es : List (Nat × Nat)) : Nat → List Int → Int → Option Int
  | 0, _, _ => none
  | n + 1, o, b => if (relsM (o, b, false) es).2.2 then relN es n (relsM (o, b, false) es).1 (relsM (o, b, false) es).2.1 else some (relsM (o, b, false) es).2.1
/-- What holds while edges are gone through. -/
structure RelOK (nx : Word → List Word) (ws : List Word) (o : List Int) (b : Int) : Prop where
  len : o.length = ws.length
  walk : ∀ i, i < ws.length → ∃ n : Nat, el o i = (n : Int) ∧ ∃ u ∈ ws, ReachN nx u n (el ws i)
  top : ∀ i, i < ws.length → el o i ≤ b
  best : b = 0 ∨ ∃ i, i < ws.length ∧ el o i = b
  pos : 0 ≤ b
/-- The edges of a graph of words. -/
structure EdgesOK (nx : Word → List Word) (ws : List Word) (es : List (Nat × Nat)) : Prop where
  lt : ∀ e ∈ es, e.1 < ws.length ∧ e.2 < ws.length ∧ el ws e.2 ∈ nx (el ws e.1)
  all : ∀ i, i < ws.length → ∀ x ∈ nx (el ws i), ∃ j, (i, j) ∈ es ∧ el ws j = x
theorem el_setG {α : Type} [Inhabited α] (o : List α) (i k : Nat) (v : α) (hi : i < o.length) : el (o.set i v) k = if i = k then v else el o k := by
  unfold el
  rw [List.getD_eq_getElem?_getD, List.getElem?_set]
  by_cases h : i = k
  · subst h; simp [hi]
  · simp [h]
theorem relM_ok {ws : List Word} {es : List (Nat × Nat)} (he : EdgesOK nx ws es) {e : Nat × Nat} (hm : e ∈ es) {o : List Int} {b : Int} {c : Bool} (h : RelOK nx ws o b) :
    RelOK nx ws (relM (o, b, c) e).1 (relM (o, b, c) e).2.1 := by
  obtain ⟨h1, h2, h3⟩ := he.lt e hm
  unfold relM
  dsimp only
  by_cases hlt : el o e.2 < el o e.1 + 1
  · rw [if_pos hlt]
    dsimp only
    have hl : e.2 < o.length := by rw [h.len]; exact h2
    obtain ⟨n, hn, u, hu, hw⟩ := h.walk e.1 h1
    refine ⟨by simp [h.len], fun i hi => ?_, fun i hi => ?_, ?_, by have := h.pos; omega⟩
    · rw [el_setG _ _ _ _ hl]
      by_cases hie : e.2 = i
      · rw [if_pos hie]
        subst hie
        exact ⟨n + 1, by omega, u, hu, .succ hw h3⟩
      · rw [if_neg hie]; exact h.walk i hi
    · rw [el_setG _ _ _ _ hl]
      have := h.top i hi
      by_cases hie : e.2 = i
      · rw [if_pos hie]; omega
      · rw [if_neg hie]; omega
    · by_cases hb : b ≤ el o e.1 + 1
      · refine .inr ⟨e.2, h2, ?_⟩
        rw [el_setG _ _ _ _ hl, if_pos rfl]
        omega
      · rcases h.best with e0 | ⟨i, hi, hie⟩
        · have := h.walk e.1 h1; omega
        · refine .inr ⟨i, hi, ?_⟩
          rw [el_setG _ _ _ _ hl]
          by_cases hii : e.2 = i
          · rw [← hii] at hie; omega
          · rw [if_neg hii]; omega
  · rw [if_neg hlt]; exact h
theorem relM_grow (a : List Int × Int × Bool) (e : Nat × Nat) (hl : e.2 < a.1.length) (i : Nat) : el a.1 i ≤ el (relM a e).1 i := by
  unfold relM
  split
  · try dsimp only
    rw [el_setG _ _ _ _ hl]
    split
    · rename_i h; subst h; omega
    · omega
  · omega
theorem relM_len (a : List Int × Int × Bool) (e : Nat × Nat) : (relM a e).1.length = a.1.length := by
  unfold relM; split <;> simp
/-- Only edges whose beginning has grown so far may be short. -/
def shortOK (k : Nat) (o : List Int) (e : Nat × Nat) : Prop := el o e.1 + 1 ≤ el o e.2 ∨ (k : Int) ≤ el o e.1
theorem relM_short {a : List Int × Int × Bool} {e : Nat × Nat} (hl : e.2 < a.1.length) {k : Nat} (hs : shortOK k a.1 e) :
    (∀ f, shortOK k a.1 f → shortOK k (relM a e).1 f) ∧ (∀ f, shortOK (k + 1) a.1 f → shortOK (k + 1) (relM a e).1 f) ∧ shortOK (k + 1) (relM a e).1 e ∧ ((relM a e).2.2 = true → a.2.2 = true ∨ (k : Int) + 1 ≤ el (relM a e).1 e.2) := by
  have key : ∀ j : Nat, j ≤ k + 1 → ∀ f, shortOK j a.1 f → shortOK j (relM a e).1 f := by
    intro j hj f hf
    unfold relM
    split
    · rename_i hlt
      try dsimp only at hlt ⊢
      have hk : (k : Int) ≤ el a.1 e.1 := by
        rcases hs with h | h
        · omega
        · exact h
      unfold shortOK at hf ⊢
      try dsimp only
      rw [el_setG _ _ _ _ hl, el_setG _ _ _ _ hl]
      by_cases h1 : e.2 = f.1
      · rw [if_pos h1]
        exact .inr (by omega)
      · rw [if_neg h1]
        rcases hf with h | h
        · left
          split
          · rename_i h2; rw [← h2] at h; omega
          · exact h
        · exact .inr h
    · exact hf
  refine ⟨fun f hf => key k (by omega) f hf, fun f hf => key (k + 1) (Nat.le_refl _) f hf, ?_, ?_⟩
  · unfold relM
    split
    · rename_i hlt
      try dsimp only at hlt ⊢
      have hk : (k : Int) ≤ el a.1 e.1 := by
        rcases hs with h | h
        · omega
        · exact h
      unfold shortOK
      rw [el_setG _ _ _ _ hl, el_setG _ _ _ _ hl]
      by_cases h1 : e.2 = e.1
      · rw [if_pos h1]; exact .inr (by omega)
      · rw [if_neg h1, if_pos rfl]; exact .inl (by omega)
    · rename_i hlt
      exact .inl (by omega)
  · unfold relM
    split
    · rename_i hlt
      try dsimp only at hlt ⊢
      intro _
      right
      rw [el_setG _ _ _ _ hl, if_pos rfl]
      rcases hs with h | h <;> omega
    · exact fun h => .inl h
/-- One round. -/
theorem relsM_ok {ws : List Word} {es : List (Nat × Nat)} (he : EdgesOK nx ws es) (k : Nat) : ∀ (l done : List (Nat × Nat)) (o : List Int) (b : Int) (c : Bool), (∀ e ∈ l, e ∈ es) → RelOK nx ws o b →
    (∀ e ∈ l, shortOK k o e) → (∀ e ∈ done, shortOK (k + 1) o e) → (c = true → ∃ i, i < ws.length ∧ (k : Int) + 1 ≤ el o i) →
    RelOK nx ws (relsM (o, b, c) l).1 (relsM (o, b, c) l).2.1 ∧ (∀ e ∈ done ++ l, shortOK (k + 1) (relsM (o, b, c) l).1 e) ∧
    ((relsM (o, b, c) l).2.2 = true → ∃ i, i < ws.length ∧ (k : Int) + 1 ≤ el (relsM (o, b, c) l).1 i) ∧
    ((relsM (o, b, c) l).2.2 = false → c = false ∧ (relsM (o, b, c) l).1 = o ∧ (relsM (o, b, c) l).2.1 = b ∧ ∀ e ∈ l, el o e.1 + 1 ≤ el o e.2)
  | [], done, o, b, c, _, h, _, hd, hc => ⟨h, by simpa [relsM] using hd, hc, fun e => ⟨e, rfl, rfl, by simp⟩⟩
  | e :: l, done, o, b, c, hes, h, hl, hd, hc => by
    have hm := hes e (by simp)
    obtain ⟨h1, h2, h3⟩ := he.lt e hm
    have hlt : e.2 < (o, b, c).1.length := by dsimp only; rw [h.len]; exact h2
    obtain ⟨s1, s2, s3, s4⟩ := relM_short (a := (o, b, c)) hlt (hl e (by simp))
    have hr := relM_ok he hm (c := c) h
    have hg := relM_grow (o, b, c) e hlt
    rw [relsM]
    have hsame : (relM (o, b, c) e).2.2 = false → c = false ∧ (relM (o, b, c) e) = (o, b, c) ∧ el o e.1 + 1 ≤ el o e.2 := by
      unfold relM
      split
      · intro hh; cases hh
      · rename_i hn
        intro hh
        exact ⟨hh, rfl, by dsimp only at hn; omega⟩
    generalize hq : relM (o, b, c) e = q at *
    obtain ⟨o', b', c'⟩ := q
    dsimp only at *
    have ih := relsM_ok he k l (done ++ [e]) o' b' c' (fun x hx => hes x (by simp [hx])) hr (fun x hx => s1 x (hl x (by simp [hx])))
      (fun x hx => by
        rcases List.mem_append.1 hx with hx | hx
        · exact s2 x (hd x hx)
        · simp only [List.mem_singleton] at hx
          subst hx; exact s3)
      (fun hc' => by
        rcases s4 hc' with h5 | h5
        · obtain ⟨i, hi, h6⟩ := hc h5
          exact ⟨i, hi, by have := hg i; omega⟩
        · exact ⟨e.2, h2, h5⟩)
    obtain ⟨i1, i2, i3, i4⟩ := ih
    refine ⟨i1, fun x hx => i2 x (by simpa using hx), i3, fun hf => ?_⟩
    obtain ⟨j1, j2, j3, j4⟩ := i4 hf
    obtain ⟨k1, k2, k3⟩ := hsame j1
    simp only [Prod.mk.injEq] at k2
    obtain ⟨rfl, rfl, _⟩ := k2
    refine ⟨k1, j2, j3, fun x hx => ?_⟩
    rcases List.mem_cons.1 hx with rfl | hx
    · exact k3
    · exact j4 x hx
/-- The words that are reached, and no others. -/
structure AllOK (nx : Word → List Word) (w : Word) (ws : List Word) : Prop where
  mem : w ∈ ws
  reach : ∀ x ∈ ws, ∃ n, ReachN nx w n x
  all : ∀ n x, ReachN nx w n x → x ∈ ws
theorem relN_spec {w : Word} {ws : List Word} {es : List (Nat × Nat)} (ha : AllOK nx w ws) (he : EdgesOK nx ws es) : ∀ (n k : Nat) (o : List Int) (b : Int), n + k = ws.length + 1 → RelOK nx ws o b → (∀ e ∈ es, shortOK k o e) →
    (k = 0 ∨ ∃ i, i < ws.length ∧ (k : Int) ≤ el o i) →
    match relN es n o b with
    | some m => LongR nx w m true
    | none => LongR nx w 0 false
  | 0, k, o, b, hk, h, hs, hi => by
    rw [relN]
    refine ⟨fun h => (by cases h), fun _ => ⟨rfl, ?_⟩⟩
    rcases hi with e | ⟨i, hi, hki⟩
    · omega
    · obtain ⟨n, hn, u, hu, hw⟩ := h.walk i hi
      obtain ⟨d, hd⟩ := ha.reach u hu
      exact long_ever ha.all (hd.trans hw) (by omega)
  | n + 1, k, o, b, hk, h, hs, hi => by
    obtain ⟨i1, i2, i3, i4⟩ := relsM_ok he k es [] o b false (fun e h => h) h hs (by simp) (by simp)
    rw [relN]
    cases hc : (relsM (o, b, false) es).2.2 with
    | true =>
      simp only [if_true]
      exact relN_spec ha he n (k + 1) _ _ (by omega) i1 (by simpa using i2) (.inr (by
        obtain ⟨i, h1, h2⟩ := i3 hc
        exact ⟨i, h1, by omega⟩))
    | false =>
      obtain ⟨_, j2, j3, j4⟩ := i4 hc
      simp only [Bool.false_eq_true, if_false]
      rw [j3]
      refine ⟨fun _ => ⟨?_, fun m x hx => ?_⟩, fun h => (by cases h)⟩
      · rcases h.best with e | ⟨i, hi, hib⟩
        · exact ⟨0, by omega, w, .zero⟩
        · obtain ⟨n, hn, u, hu, hw⟩ := h.walk i hi
          obtain ⟨d, hd⟩ := ha.reach u hu
          have hlen := hd.trans hw
          -- the walk from w is at least as long; it is no longer, since all are bounded
          have hbound : ∀ (m : Nat) (x : Word), ReachN nx w m x → ∃ q, q < ws.length ∧ el ws q = x ∧ (m : Int) ≤ el o q := by
            intro m
            induction m with
            | zero =>
              intro x hx
              cases hx
              obtain ⟨q, hq, rfl⟩ := List.getElem_of_mem ha.mem
              refine ⟨q, hq, el_eq ws q hq, ?_⟩
              obtain ⟨n, hn, _⟩ := h.walk q hq
              omega
            | succ m ihm =>
              intro x hx
              cases hx with
              | succ h5 h6 =>
                obtain ⟨q, hq, rfl, h7⟩ := ihm _ h5
                obtain ⟨j, h8, h9⟩ := he.all q hq x h6
                have h10 := j4 _ h8
                have h11 := (he.lt _ h8).2.1
                dsimp only at h10 h11
                exact ⟨j, h11, h9, by omega⟩
          obtain ⟨q, hq, _, h12⟩ := hbound _ _ hlen
          have := h.top q hq
          exact ⟨d + n, by omega, _, hlen⟩
      · have hbound : ∀ (m : Nat) (x : Word), ReachN nx w m x → ∃ q, q < ws.length ∧ el ws q = x ∧ (m : Int) ≤ el o q := by
          intro m
          induction m with
          | zero =>
            intro x hx
            cases hx
            obtain ⟨q, hq, rfl⟩ := List.getElem_of_mem ha.mem
            refine ⟨q, hq, el_eq ws q hq, ?_⟩
            obtain ⟨n, hn, _⟩ := h.walk q hq
            omega
          | succ m ihm =>
            intro x hx
            cases hx with
            | succ h5 h6 =>
              obtain ⟨q, hq, rfl, h7⟩ := ihm _ h5
              obtain ⟨j, h8, h9⟩ := he.all q hq x h6
              have h10 := j4 _ h8
              have h11 := (he.lt _ h8).2.1
              dsimp only at h10 h11
              exact ⟨j, h11, h9, by omega⟩
        obtain ⟨q, hq, _, h12⟩ := hbound _ _ hx
        have := h.top q hq
        omega
end Go.Proofs.YtkhddecnllcaiaaGreat
end

section
/- Plain: words that are calm; that a calm word whose steps end has one end; what is reached, by numbers. -/
namespace Go.Proofs.YtkhddecnllcaiaaGreat
open Go.Abs Go

variable {nx : Word → List Word}
/-- Both reach a common word. -/
def JoinW (nx : Word → List Word) (u v : Word) : Prop := ∃ n m z, ReachN nx u n z ∧ ReachN nx v m z
def CalmR (nx : Word → List Word) (w : Word) : Prop := ∀ n u, ReachN nx w n u → ∀ x ∈ nx u, ∀ y ∈ nx u, JoinW nx x y
theorem end_exists {w : Word} {N : Int} (hN : ∀ (m : Nat) (x : Word), ReachN nx w m x → (m : Int) ≤ N) : ∀ (d : Nat) {k : Nat} {u : Word}, ReachN nx w k u → N < ((k + d : Nat) : Int) → ∃ j c, ReachN nx u j c ∧ nx c = []
  | 0, k, u, h, hd => by have := hN k u h; omega
  | d + 1, k, u, h, hd => by
    cases he : nx u with
    | nil => exact ⟨0, u, .zero, he⟩
    | cons x l =>
      have hx : x ∈ nx u := by rw [he]; simp
      obtain ⟨j, c, h1, h2⟩ := end_exists hN d (.succ h hx) (by omega)
      exact ⟨j + 1, c, ReachN.cons hx h1, h2⟩
theorem newman {w : Word} {N : Int} (hc : CalmR nx w) (hN : ∀ (m : Nat) (x : Word), ReachN nx w m x → (m : Int) ≤ N) : ∀ (d : Nat) {k : Nat} {u : Word}, ReachN nx w k u → N < ((k + d : Nat) : Int) →
    ∀ {i j : Nat} {a b : Word}, ReachN nx u i a → ReachN nx u j b → nx a = [] → nx b = [] → a = b
  | 0, k, u, h, hd, _, _, _, _, _, _, _, _ => by have := hN k u h; omega
  | d + 1, k, u, h, hd, i, j, a, b, ha, hb, ea, eb => by
    cases i with
    | zero =>
      cases ha
      cases j with
      | zero => cases hb; rfl
      | succ j =>
        obtain ⟨x, hx, _⟩ := hb.first
        rw [ea] at hx; cases hx
    | succ i =>
      obtain ⟨x, hx, ha'⟩ := ha.first
      cases j with
      | zero =>
        cases hb
        rw [eb] at hx; cases hx
      | succ j =>
        obtain ⟨y, hy, hb'⟩ := hb.first
        obtain ⟨n, m, z, hz1, hz2⟩ := hc k u h x hx y hy
        have hx' := ReachN.succ h hx
        have hy' := ReachN.succ h hy
        obtain ⟨e, c, hzc, ec⟩ := end_exists hN d (hx'.trans hz1) (by omega)
        have e1 := newman hc hN d hx' (by omega) ha' (hz1.trans hzc) ea ec
        have e2 := newman hc hN d hy' (by omega) hb' (hz2.trans hzc) eb ec
        rw [e1, e2]

/-! ### by numbers -/
inductive ReachI (rows : List (List Int)) (i : Nat) : Nat → Prop
  | zero : ReachI rows i i
  | succ {j k : Nat} (h : ReachI rows i j) (hj : j < rows.length) (hk : (k : Int) ∈ el rows j) : ReachI rows i k
open Classical in
noncomputable def cloB (rows : List (List Int)) (i : Nat) : List Bool := (List.range rows.length).map fun k => decide (ReachI rows i k)
def commonB (a b : List Bool) : Bool := (List.range a.length).any fun k => el a k && el b k
noncomputable def calmB (rows : List (List Int)) : Bool := rows.all fun all => (List.range all.length).all fun i => (List.range i).all fun k => commonB (cloB rows (el all i).toNat) (cloB rows (el all k).toNat)
theorem cloB_len (rows : List (List Int)) (i : Nat) : (cloB rows i).length = rows.length := by simp [cloB]
theorem cloB_el {rows : List (List Int)} {i k : Nat} (hk : k < rows.length) : el (cloB rows i) k = true ↔ ReachI rows i k := by
  have : el (List.range rows.length) k = k := by rw [el_eq _ _ (by simpa using hk)]; simp
  unfold cloB
  rw [el_mapG _ _ (by simpa using hk), this]
  exact @decide_eq_true_iff _ (Classical.propDecidable _)
theorem common_iff {rows : List (List Int)} {i j : Nat} : commonB (cloB rows i) (cloB rows j) = true ↔ ∃ z, z < rows.length ∧ ReachI rows i z ∧ ReachI rows j z := by
  unfold commonB
  rw [List.any_eq_true]
  constructor
  · rintro ⟨z, hz, h⟩
    rw [List.mem_range, cloB_len] at hz
    rw [Bool.and_eq_true, cloB_el hz, cloB_el hz] at h
    exact ⟨z, hz, h⟩
  · rintro ⟨z, hz, h⟩
    refine ⟨z, by rw [List.mem_range, cloB_len]; exact hz, ?_⟩
    rw [Bool.and_eq_true, cloB_el hz, cloB_el hz]
    exact h
/-- The rows say to which words steps lead. -/
structure RowsFor (nx : Word → List Word) (ws : List Word) (rows : List (List Int)) : Prop where
  len : rows.length = ws.length
  to : ∀ i, i < ws.length → ∀ q ∈ el rows i, ∃ j : Nat, q = (j : Int) ∧ j < ws.length ∧ el ws j ∈ nx (el ws i)
  all : ∀ i, i < ws.length → ∀ x ∈ nx (el ws i), ∃ j : Nat, j < ws.length ∧ el ws j = x ∧ (j : Int) ∈ el rows i
theorem reachI_word {ws : List Word} {rows : List (List Int)} (h : RowsFor nx ws rows) {i k : Nat} (hi : i < ws.length) (r : ReachI rows i k) : k < ws.length ∧ ∃ n, ReachN nx (el ws i) n (el ws k) := by
  induction r with
  | zero => exact ⟨hi, 0, .zero⟩
  | succ r hj hk ih =>
    obtain ⟨h1, n, h2⟩ := ih
    obtain ⟨j', e, hj', hm⟩ := h.to _ h1 _ hk
    have : j' = _ := (Int.ofNat.inj e).symm
    subst this
    exact ⟨hj', n + 1, .succ h2 hm⟩
theorem reachI_of {ws : List Word} {rows : List (List Int)} (h : RowsFor nx ws rows) {i : Nat} (hi : i < ws.length) {n : Nat} {x : Word} (r : ReachN nx (el ws i) n x) : ∃ k, k < ws.length ∧ el ws k = x ∧ ReachI rows i k := by
  induction r with
  | zero => exact ⟨i, hi, rfl, .zero⟩
  | succ r hx ih =>
    obtain ⟨k, hk, rfl, hr⟩ := ih
    obtain ⟨j, h1, h2, h3⟩ := h.all k hk _ hx
    exact ⟨j, h1, h2, .succ hr (by rw [h.len]; exact hk) h3⟩
theorem nodup_at' {l : List Word} (h : l.Nodup) {i j : Nat} (hi : i < l.length) (hj : j < l.length) (e : el l i = el l j) : i = j := by
  rw [el_eq _ _ hi, el_eq _ _ hj] at e
  have hn := List.pairwise_iff_getElem.1 h
  apply Classical.byContradiction
  intro hne
  rcases Nat.lt_or_gt_of_ne hne with hlt | hgt
  · exact hn i j hi hj hlt e
  · exact hn j i hj hi hgt e.symm
theorem common_join {ws : List Word} {rows : List (List Int)} (h : RowsFor nx ws rows) (hn : ws.Nodup) {i j : Nat} (hi : i < ws.length) (hj : j < ws.length) : commonB (cloB rows i) (cloB rows j) = true ↔ JoinW nx (el ws i) (el ws j) := by
  rw [common_iff]
  constructor
  · rintro ⟨z, _, h1, h2⟩
    obtain ⟨_, n, r1⟩ := reachI_word h hi h1
    obtain ⟨_, m, r2⟩ := reachI_word h hj h2
    exact ⟨n, m, _, r1, r2⟩
  · rintro ⟨n, m, z, r1, r2⟩
    obtain ⟨k, hk, e, h1⟩ := reachI_of h hi r1
    obtain ⟨k', hk', e', h2⟩ := reachI_of h hj r2
    have := nodup_at' hn hk hk' (e.trans e'.symm)
    subst this
    exact ⟨k, by rw [h.len]; exact hk, h1, h2⟩
theorem mem_el {α : Type} [Inhabited α] {l : List α} {x : α} (h : x ∈ l) : ∃ k, k < l.length ∧ el l k = x := by
  obtain ⟨k, hk, rfl⟩ := List.getElem_of_mem h
  exact ⟨k, hk, el_eq _ k hk⟩
theorem calm_iff {w : Word} {ws : List Word} {rows : List (List Int)} (ha : AllOK nx w ws) (hn : ws.Nodup) (h : RowsFor nx ws rows) : calmB rows = true ↔ CalmR nx w := by
  have key : calmB rows = true ↔ ∀ r, r < ws.length → ∀ i, i < (el rows r).length → ∀ k, k < i → commonB (cloB rows (el (el rows r) i).toNat) (cloB rows (el (el rows r) k).toNat) = true := by
    unfold calmB
    simp only [List.all_eq_true, List.mem_range]
    constructor
    · intro hc r hr i hi k hk
      have hr' : r < rows.length := by rw [h.len]; exact hr
      exact hc (el rows r) (by rw [el_eq _ _ hr']; exact List.getElem_mem _) i hi k hk
    · intro hc all hall i hi k hk
      obtain ⟨r, hr, rfl⟩ := mem_el hall
      exact hc r (by rw [← h.len]; exact hr) i hi k hk
  rw [key]
  have hmem : ∀ {l : List Int} {p : Nat}, p < l.length → el l p ∈ l := fun {l p} hp => by rw [el_eq _ _ hp]; exact List.getElem_mem _
  constructor
  · intro hc n u hu x hx y hy
    obtain ⟨r, hr, rfl⟩ := mem_el (ha.all n u hu)
    obtain ⟨a, ha1, rfl, ha3⟩ := h.all r hr x hx
    obtain ⟨b, hb1, rfl, hb3⟩ := h.all r hr y hy
    obtain ⟨p, hp, ep⟩ := mem_el ha3
    obtain ⟨q, hq, eq⟩ := mem_el hb3
    rcases Nat.lt_trichotomy p q with hlt | heq | hgt
    · have := hc r hr q hq p hlt
      rw [ep, eq, Int.toNat_natCast, Int.toNat_natCast, common_join h hn hb1 ha1] at this
      obtain ⟨n, m, z, h1, h2⟩ := this
      exact ⟨m, n, z, h2, h1⟩
    · subst heq
      rw [ep] at eq
      have : a = b := Int.ofNat.inj eq
      subst this
      exact ⟨0, 0, _, .zero, .zero⟩
    · have := hc r hr p hp q hgt
      rw [ep, eq, Int.toNat_natCast, Int.toNat_natCast, common_join h hn ha1 hb1] at this
      exact this
  · intro hc r hr i hi k hk
    obtain ⟨a, ea, ha1, ha2⟩ := h.to r hr _ (hmem hi)
    obtain ⟨b, eb, hb1, hb2⟩ := h.to r hr _ (hmem (show k < (el rows r).length by omega))
    rw [ea, eb, Int.toNat_natCast, Int.toNat_natCast, common_join h hn ha1 hb1]
    obtain ⟨n, hn'⟩ := ha.reach (el ws r) (by rw [el_eq _ _ hr]; exact List.getElem_mem _)
    exact hc n _ hn' _ ha2 _ hb2
/-- Where nothing goes on for ever a calm word has one end. -/
theorem calm_one {w : Word} {n : Int} (hc : CalmR nx w) (hl : LongR nx w n true) : ∃ e k, ReachN nx w k e ∧ nx e = [] ∧ ∀ j x, ReachN nx w j x → nx x = [] → x = e := by
  obtain ⟨⟨m, rfl, _⟩, hN⟩ := hl.fin rfl
  obtain ⟨j, c, h1, h2⟩ := end_exists hN (m + 1) .zero (by omega)
  exact ⟨c, j, h1, h2, fun i x hx ex => newman hc hN (m + 1) .zero (by omega) hx h1 ex h2⟩
/-- A search: what was seen, and what of it is still to be looked at. -/
structure Search (rows : List (List Int)) (i : Nat) (seen : List Bool) (todo : List Int) : Prop where
  len : seen.length = rows.length
  first : el seen i = true
  reach : ∀ k, k < rows.length → el seen k = true → ReachI rows i k
  pend : ∀ q ∈ todo, ∃ j : Nat, q = (j : Int) ∧ j < rows.length ∧ el seen j = true
  done : ∀ j, j < rows.length → el seen j = true → (j : Int) ∈ todo ∨ ∀ k : Nat, (k : Int) ∈ el rows j → el seen k = true
/-- Every number in the rows is one of a row. -/
def Rng (rows : List (List Int)) : Prop := ∀ j, j < rows.length → ∀ p, p < (el rows j).length → ∃ k : Nat, el (el rows j) p = (k : Int) ∧ k < rows.length
theorem Search.end {rows : List (List Int)} {i : Nat} {seen : List Bool} (h : Search rows i seen []) (hr : Rng rows) (hi : i < rows.length) : seen = cloB rows i := by
  have key : ∀ k, ReachI rows i k → k < rows.length ∧ el seen k = true := by
    intro k r
    induction r with
    | zero => exact ⟨hi, h.first⟩
    | succ r hj hk ih =>
      rcases h.done _ hj ih.2 with h1 | h1
      · cases h1
      · refine ⟨?_, h1 _ hk⟩
        obtain ⟨p, hp, e⟩ := mem_el hk
        obtain ⟨k', e', hk'⟩ := hr _ hj p hp
        rw [e] at e'
        have : _ = k' := Int.ofNat.inj e'
        omega
  apply List.ext_getElem (by rw [cloB_len, h.len])
  intro k h1 h2
  rw [← el_eq _ _ h1, ← el_eq _ _ h2]
  have hk : k < rows.length := by rw [← h.len]; exact h1
  rw [Bool.eq_iff_iff, cloB_el hk]
  exact ⟨h.reach k hk, fun r => (key k r).2⟩
def cntF (l : List Bool) : Nat := l.countP fun b => !b
theorem cntF_set : ∀ (l : List Bool) (k : Nat), k < l.length → el l k = false → cntF (l.set k true) + 1 = cntF l
  | b :: l, 0, _, h => by
    have : b = false := h
    subst this
    simp [cntF]
  | b :: l, k + 1, hk, h => by
    have h1 : el l k = false := by simpa [el] using h
    have := cntF_set l k (by simpa using hk) h1
    unfold cntF at this ⊢
    simp only [List.set_cons_succ, List.countP_cons]
    omega
theorem el_setB (o : List Bool) (i k : Nat) (v : Bool) (hi : i < o.length) : el (o.set i v) k = if i = k then v else el o k := el_setG o i k v hi
/-- One number more of a row that is looked at. -/
theorem Search.push {rows : List (List Int)} {i : Nat} {seen : List Bool} {todo : List Int} (h : Search rows i seen todo) {j k : Nat} (hj : (j : Int) ∈ todo) (hk : (k : Int) ∈ el rows j) (hkl : k < rows.length) :
    Search rows i (seen.set k true) (todo ++ [(k : Int)]) := by
  have hks : k < seen.length := by rw [h.len]; exact hkl
  have hmono : ∀ q, el seen q = true → el (seen.set k true) q = true := fun q hq => by rw [el_setB _ _ _ _ hks]; split <;> simp_all
  obtain ⟨j', e, hj1, hj2⟩ := h.pend _ hj
  have : j' = j := (Int.ofNat.inj e).symm
  subst this
  refine ⟨by simpa using h.len, hmono _ h.first, fun q hq hs => ?_, fun q hq => ?_, fun q hq hs => ?_⟩
  · rw [el_setB _ _ _ _ hks] at hs
    split at hs
    · rename_i e; subst e
      exact .succ (h.reach _ hj1 hj2) hj1 hk
    · exact h.reach q hq hs
  · rcases List.mem_append.1 hq with hq | hq
    · obtain ⟨a, ea, h1, h2⟩ := h.pend q hq
      exact ⟨a, ea, h1, hmono _ h2⟩
    · simp only [List.mem_singleton] at hq
      exact ⟨k, hq, hkl, by rw [el_setB _ _ _ _ hks]; simp⟩
  · rw [el_setB _ _ _ _ hks] at hs
    split at hs
    · rename_i e; subst e
      exact .inl (by simp)
    · rcases h.done q hq hs with h1 | h1
      · exact .inl (by simp [h1])
      · exact .inr fun z hz => hmono _ (h1 z hz)
/-- A row was looked at to its end. -/
theorem Search.pop {rows : List (List Int)} {i : Nat} {seen : List Bool} {todo todo' : List Int} {j : Nat} (h : Search rows i seen todo) (hm : ∀ q, q ∈ todo ↔ q = (j : Int) ∨ q ∈ todo') (hr : Rng rows) (hj : j < rows.length)
    (hall : ∀ p, p < (el rows j).length → el seen (el (el rows j) p).toNat = true) : Search rows i seen todo' := by
  refine ⟨h.len, h.first, h.reach, fun q hq => h.pend q ((hm q).2 (.inr hq)), fun q hq hs => ?_⟩
  have hrow : ∀ k : Nat, (k : Int) ∈ el rows j → el seen k = true := fun k hk => by
    obtain ⟨p, hp, e⟩ := mem_el hk
    have := hall p hp
    rwa [e, Int.toNat_natCast] at this
  by_cases hqj : q = j
  · subst hqj; exact .inr hrow
  · rcases h.done q hq hs with h1 | h1
    · rcases (hm _).1 h1 with h2 | h2
      · exact absurd (Int.ofNat.inj h2) hqj
      · exact .inl h2
    · exact .inr h1
theorem Search.same {rows : List (List Int)} {i : Nat} {seen : List Bool} {todo todo' : List Int} (h : Search rows i seen todo) (hm : ∀ q, q ∈ todo' ↔ q ∈ todo) : Search rows i seen todo' :=
  ⟨h.len, h.first, h.reach, fun q hq => h.pend q ((hm q).1 hq), fun q hq hs => (h.done q hq hs).imp_left (hm q).2⟩
theorem Search.start {rows : List (List Int)} {i : Nat} (hi : i < rows.length) : Search rows i ((List.replicate rows.length false).set i true) [(i : Int)] := by
  have hl : i < (List.replicate rows.length false).length := by simpa using hi
  have hel : ∀ k, el ((List.replicate rows.length false).set i true) k = true → k = i := by
    intro k hk
    rw [el_setB _ _ _ _ hl] at hk
    split at hk
    · rename_i e; exact e.symm
    · exfalso
      by_cases h2 : k < rows.length
      · rw [el_eq _ _ (by simpa using h2)] at hk; simp at hk
      · unfold el at hk
        rw [List.getD_eq_getElem?_getD, List.getElem?_eq_none (by simp; omega)] at hk
        cases hk
  have h0 : el ((List.replicate rows.length false).set i true) i = true := by rw [el_setB _ _ _ _ hl]; simp
  refine ⟨by simp, h0, fun k hk hs => ?_, fun q hq => ?_, fun j hj hs => ?_⟩
  · rw [hel k hs]; exact .zero
  · simp only [List.mem_singleton] at hq
    exact ⟨i, hq, hi, h0⟩
  · rw [hel j hs]; exact .inl (by simp)
theorem cntF_start {n i : Nat} (hi : i < n) : cntF ((List.replicate n false).set i true) + 1 = n := by
  rw [cntF_set _ _ (by simpa using hi) (by rw [el_eq _ _ (by simpa using hi)]; simp)]
  unfold cntF
  rw [List.countP_replicate]
  simp
end Go.Proofs.YtkhddecnllcaiaaGreat
end

section
/- Functions of the cut as the value layer reads them. (written by gen.py) -/
set_option maxRecDepth 20000
namespace Go.Proofs.YtkhddecnllcaiaaGreat
open Go.Abs Go

def A33 : ACode :=
  (.seq (.reg [] [⟨some 1, (.box 46 (.tmp 0)), 0, none⟩,
      ⟨some 2, (.assign (.const (.bool false))), 4, none⟩])
    (.seq (.reg [] [⟨some 3, (.fieldAddr 46 (.tmp 1) 1), 0, none⟩,
      ⟨some 4, (.load 23 (.tmp 3)), 23, none⟩,
      ⟨some 5, (.call ⟨(.value (.func 71)), #[(.tmp 4)], #[23]⟩), 4, none⟩,
      ⟨some 6, (.move (.tmp 5)), 4, none⟩,
      ⟨some 7, (.fieldAddr 46 (.tmp 1) 2), 0, some (6, false)⟩,
      ⟨some 8, (.load 23 (.tmp 7)), 23, some (6, false)⟩,
      ⟨some 9, (.call ⟨(.value (.func 71)), #[(.tmp 8)], #[23]⟩), 4, some (6, false)⟩,
      ⟨some 10, (.pick (.tmp 6) (.const (.bool true)) (.tmp 9)), 4, none⟩,
      ⟨some 11, (.move (.tmp 10)), 4, none⟩,
      ⟨some 12, (.fieldAddr 46 (.tmp 1) 3), 0, some (11, false)⟩,
      ⟨some 13, (.load 23 (.tmp 12)), 23, some (11, false)⟩,
      ⟨some 14, (.call ⟨(.value (.func 71)), #[(.tmp 13)], #[23]⟩), 4, some (11, false)⟩,
      ⟨some 15, (.pick (.tmp 11) (.const (.bool true)) (.tmp 14)), 4, none⟩,
      ⟨some 2, (.assign (.tmp 15)), 4, none⟩])
    .ret))
theorem C33 {args : List AV} {r : AV} (hn : args.length ≤ 16) (h : vc Tryz.prog T [] A33 (Fin T [(.tmp 2)] r) ⟨envOf 0 args, []⟩) : CallP Tryz.prog 33 args r :=
  callP_of tok mixed Tryz.func33 (by kernel_rfl) (by kernel_rfl) (by kernel_rfl : Tryz.f33.ntmps = 16) (by kernel_rfl : Tryz.f33.body.bind (strip 16 (fun _ => [])) = some A33) hn h
def A71 : ACode :=
  (.seq (.reg [] [⟨some 2, (.assign (.const (.bool false))), 4, none⟩])
    (.seq (.reg [] [⟨some 3, (.move (.tmp 0)), 23, none⟩,
      ⟨some 4, (.call ⟨(.builtin .len), #[(.tmp 3)], #[23]⟩), 3, none⟩,
      ⟨some 5, (.binOp .gtr 3 (.tmp 4) (.const (.int .i64 100)) 3), 4, none⟩,
      ⟨some 2, (.assign (.tmp 5)), 4, none⟩])
    .ret))
theorem C71 {args : List AV} {r : AV} (hn : args.length ≤ 6) (h : vc Tryz.prog T [] A71 (Fin T [(.tmp 2)] r) ⟨envOf 0 args, []⟩) : CallP Tryz.prog 71 args r :=
  callP_of tok mixed Tryz.func71 (by kernel_rfl) (by kernel_rfl) (by kernel_rfl : Tryz.f71.ntmps = 6) (by kernel_rfl : Tryz.f71.body.bind (strip 6 (fun _ => [])) = some A71) hn h
def A66 : ACode :=
  (.seq (.reg [] [⟨some 4, (.assign (.const (.slice none 0 0))), 89, none⟩])
    (.seq (.reg [] [⟨some 9, (.move (.tmp 0)), 27, none⟩,
      ⟨some 10, (.call ⟨(.builtin .len), #[(.tmp 9)], #[27]⟩), 3, none⟩,
      ⟨some 11, (.makeSlice 89 (.tmp 10) (.tmp 10)), 89, none⟩,
      ⟨some 5, (.assign (.tmp 11)), 89, none⟩])
    (.seq (.reg [] [⟨some 12, (.move (.tmp 5)), 89, none⟩,
      ⟨some 13, (.move (.tmp 1)), 3, none⟩,
      ⟨some 14, (.indexAddr 89 (.tmp 12) (.tmp 13)), 0, none⟩,
      ⟨none, (.store 4 (.tmp 14) (.const (.bool true))), 0, none⟩])
    (.seq (.seq (.reg [] [⟨some 15, (.move (.tmp 1)), 3, none⟩,
      ⟨some 16, (.buildSlice 23 1 #[(0, (.tmp 15))]), 23, none⟩,
      ⟨some 6, (.assign (.tmp 16)), 23, none⟩])
    (.block 0 (.loop (.seq (.seq (.reg [] [⟨some 17, (.move (.tmp 6)), 23, none⟩,
      ⟨some 18, (.call ⟨(.builtin .len), #[(.tmp 17)], #[23]⟩), 3, none⟩,
      ⟨some 19, (.binOp .gtr 3 (.tmp 18) (.const (.int .i64 0)) 3), 4, none⟩])
    (.cond (.tmp 19)
    .skip
    (.exit 0)))
    (.seq (.block 1 (.seq (.reg [] [⟨some 22, (.move (.tmp 0)), 27, none⟩,
      ⟨some 23, (.move (.tmp 6)), 23, none⟩,
      ⟨some 24, (.indexAddr 23 (.tmp 23) (.const (.int .i64 0))), 0, none⟩,
      ⟨some 25, (.load 3 (.tmp 24)), 3, none⟩,
      ⟨some 26, (.indexAddr 27 (.tmp 22) (.tmp 25)), 0, none⟩,
      ⟨some 27, (.load 23 (.tmp 26)), 23, none⟩,
      ⟨some 28, (.call ⟨(.builtin .len), #[(.tmp 27)], #[23]⟩), 3, none⟩,
      ⟨some 29, (.move (.const (.int .i64 0))), 3, none⟩])
    (.block 2 (.loop (.seq (.reg [] [⟨some 30, (.binOp .lss 3 (.tmp 29) (.tmp 28) 3), 0, none⟩])
    (.seq (.cond (.tmp 30)
    .skip
    (.exit 2))
    (.seq (.block 3 (.seq (.reg [] [⟨some 31, (.indexAddr 23 (.tmp 27) (.tmp 29)), 0, none⟩,
      ⟨some 32, (.load 3 (.tmp 31)), 3, none⟩,
      ⟨some 8, (.assign (.tmp 32)), 3, none⟩])
    (.seq (.reg [] [⟨some 33, (.move (.tmp 5)), 89, none⟩,
      ⟨some 34, (.move (.tmp 8)), 3, none⟩,
      ⟨some 35, (.indexAddr 89 (.tmp 33) (.tmp 34)), 0, none⟩,
      ⟨some 36, (.load 4 (.tmp 35)), 4, none⟩,
      ⟨some 37, (.unOp .not 4 (.tmp 36)), 4, none⟩])
    (.cond (.tmp 37)
    (.seq (.reg [] [⟨some 38, (.move (.tmp 5)), 89, none⟩,
      ⟨some 39, (.move (.tmp 8)), 3, none⟩,
      ⟨some 40, (.indexAddr 89 (.tmp 38) (.tmp 39)), 0, none⟩,
      ⟨none, (.store 4 (.tmp 40) (.const (.bool true))), 0, none⟩])
    (.reg [] [⟨some 41, (.move (.tmp 6)), 23, none⟩,
      ⟨some 42, (.move (.tmp 8)), 3, none⟩,
      ⟨some 43, (.buildSlice 23 1 #[(0, (.tmp 42))]), 23, none⟩,
      ⟨some 44, (.call ⟨(.builtin .append), #[(.tmp 41), (.tmp 43)], #[23, 23]⟩), 23, none⟩,
      ⟨some 6, (.assign (.tmp 44)), 23, none⟩]))
    .skip))))
    (.reg [] [⟨some 45, (.binOp .add 3 (.tmp 29) (.const (.int .i64 1)) 3), 3, none⟩,
      ⟨some 29, (.move (.tmp 45)), 3, none⟩]))))))))
    (.reg [] [⟨some 20, (.move (.tmp 6)), 23, none⟩,
      ⟨some 21, (.slice 23 (.tmp 20) (some (.const (.int .i64 1))) none none), 23, none⟩,
      ⟨some 6, (.assign (.tmp 21)), 23, none⟩]))))))
    (.seq (.reg [] [⟨some 46, (.move (.tmp 5)), 89, none⟩,
      ⟨some 4, (.assign (.tmp 46)), 89, none⟩])
    .ret)))))
def A67 : ACode :=
  (.seq (.reg [] [⟨some 4, (.assign (.const (.bool false))), 4, none⟩])
    (.seq (.seq (.reg [] [⟨some 6, (.move (.tmp 0)), 89, none⟩,
      ⟨some 7, (.call ⟨(.builtin .len), #[(.tmp 6)], #[89]⟩), 3, none⟩,
      ⟨some 8, (.move (.const (.int .i64 0))), 3, none⟩])
    (.block 0 (.loop (.seq (.reg [] [⟨some 9, (.binOp .lss 3 (.tmp 8) (.tmp 7) 3), 0, none⟩])
    (.seq (.cond (.tmp 9)
    .skip
    (.exit 0))
    (.seq (.block 1 (.seq (.reg [] [⟨some 10, (.move (.tmp 8)), 3, none⟩,
      ⟨some 5, (.assign (.tmp 10)), 3, none⟩])
    (.seq (.reg [] [⟨some 11, (.move (.tmp 0)), 89, none⟩,
      ⟨some 12, (.move (.tmp 5)), 3, none⟩,
      ⟨some 13, (.indexAddr 89 (.tmp 11) (.tmp 12)), 0, none⟩,
      ⟨some 14, (.load 4 (.tmp 13)), 4, none⟩,
      ⟨some 15, (.move (.tmp 14)), 4, none⟩,
      ⟨some 16, (.move (.tmp 1)), 89, some (15, true)⟩,
      ⟨some 17, (.move (.tmp 5)), 3, some (15, true)⟩,
      ⟨some 18, (.indexAddr 89 (.tmp 16) (.tmp 17)), 0, some (15, true)⟩,
      ⟨some 19, (.load 4 (.tmp 18)), 4, some (15, true)⟩,
      ⟨some 20, (.pick (.tmp 15) (.tmp 19) (.const (.bool false))), 4, none⟩])
    (.cond (.tmp 20)
    (.seq (.reg [] [⟨some 4, (.assign (.const (.bool true))), 4, none⟩])
    .ret)
    .skip))))
    (.reg [] [⟨some 21, (.binOp .add 3 (.tmp 8) (.const (.int .i64 1)) 3), 3, none⟩,
      ⟨some 8, (.move (.tmp 21)), 3, none⟩])))))))
    (.seq (.reg [] [⟨some 4, (.assign (.const (.bool false))), 4, none⟩])
    .ret)))
theorem C67 {args : List AV} {r : AV} (hn : args.length ≤ 22) (h : vc Tryz.prog T [] A67 (Fin T [(.tmp 4)] r) ⟨envOf 0 args, []⟩) : CallP Tryz.prog 67 args r :=
  callP_of tok mixed Tryz.func67 (by kernel_rfl) (by kernel_rfl) (by kernel_rfl : Tryz.f67.ntmps = 22) (by kernel_rfl : Tryz.f67.body.bind (strip 22 (fun _ => [])) = some A67) hn h
def A80 : ACode :=
  (.seq (.reg [] [⟨some 4, (.assign (.const (.slice none 0 0))), 23, none⟩])
    (.seq (.seq (.reg [] [⟨some 9, (.move (.tmp 1)), 3, none⟩,
      ⟨some 10, (.binOp .lss 3 (.tmp 9) (.const (.int .i64 0)) 3), 4, none⟩])
    (.cond (.tmp 10)
    (.reg [] [⟨some 11, (.makeInterface 9 (.const (.string ⟨#[99, 97, 110, 110, 111, 116, 32, 98, 101, 32, 110, 101, 103, 97, 116, 105, 118, 101]⟩))), 20, none⟩,
      ⟨none, (.panic (.tmp 11)), 0, none⟩])
    .skip))
    (.seq (.reg [] [⟨some 13, (.move (.tmp 0)), 23, none⟩,
      ⟨some 14, (.call ⟨(.builtin .len), #[(.tmp 13)], #[23]⟩), 3, none⟩,
      ⟨some 15, (.convert 3 114 (.tmp 14)), 114, none⟩,
      ⟨some 16, (.move (.tmp 1)), 3, none⟩,
      ⟨some 17, (.convert 3 114 (.tmp 16)), 114, none⟩,
      ⟨some 18, (.call ⟨(.value (.func 106)), #[(.tmp 15), (.tmp 17)], #[114, 114]⟩), 124, none⟩,
      ⟨some 12, (.move (.tmp 18)), 124, none⟩,
      ⟨some 19, (.extract (.tmp 12) 0), 114, none⟩,
      ⟨some 20, (.extract (.tmp 12) 1), 114, none⟩,
      ⟨some 5, (.assign (.tmp 19)), 114, none⟩,
      ⟨some 6, (.assign (.tmp 20)), 114, none⟩])
    (.seq (.seq (.reg [] [⟨some 21, (.move (.tmp 5)), 114, none⟩,
      ⟨some 22, (.binOp .gtr 114 (.tmp 21) (.const (.int .u64 0)) 114), 4, none⟩,
      ⟨some 23, (.move (.tmp 22)), 4, none⟩,
      ⟨some 24, (.move (.tmp 6)), 114, some (23, false)⟩,
      ⟨some 25, (.binOp .gtr 114 (.tmp 24) (.const (.int .u64 9223372036854775807)) 114), 4, some (23, false)⟩,
      ⟨some 26, (.pick (.tmp 23) (.const (.bool true)) (.tmp 25)), 4, none⟩])
    (.cond (.tmp 26)
    (.reg [] [⟨some 27, (.makeInterface 9 (.const (.string ⟨#[116, 104, 101, 32, 114, 101, 115, 117, 108, 116, 32, 111, 102, 32, 40, 108, 101, 110, 40, 120, 41, 32, 42, 32, 99, 111, 117, 110, 116, 41, 32, 111, 118, 101, 114, 102, 108, 111, 119, 115]⟩))), 20, none⟩,
      ⟨none, (.panic (.tmp 27)), 0, none⟩])
    .skip))
    (.seq (.reg [] [⟨some 28, (.move (.tmp 6)), 114, none⟩,
      ⟨some 29, (.convert 114 3 (.tmp 28)), 3, none⟩,
      ⟨some 30, (.makeSlice 23 (.tmp 29) (.tmp 29)), 23, none⟩,
      ⟨some 7, (.assign (.tmp 30)), 23, none⟩])
    (.seq (.reg [] [⟨some 31, (.move (.tmp 7)), 23, none⟩,
      ⟨some 32, (.move (.tmp 0)), 23, none⟩,
      ⟨some 33, (.call ⟨(.builtin .copy), #[(.tmp 31), (.tmp 32)], #[23, 23]⟩), 3, none⟩,
      ⟨some 8, (.assign (.tmp 33)), 3, none⟩])
    (.seq (.block 0 (.loop (.seq (.seq (.reg [] [⟨some 34, (.move (.tmp 8)), 3, none⟩,
      ⟨some 35, (.move (.tmp 7)), 23, none⟩,
      ⟨some 36, (.call ⟨(.builtin .len), #[(.tmp 35)], #[23]⟩), 3, none⟩,
      ⟨some 37, (.binOp .lss 3 (.tmp 34) (.tmp 36) 3), 4, none⟩])
    (.cond (.tmp 37)
    .skip
    (.exit 0)))
    (.block 1 (.draw [] [⟨some 38, (.move (.tmp 8)), 3, none⟩,
      ⟨some 39, (.move (.tmp 7)), 23, none⟩,
      ⟨some 40, (.move (.tmp 8)), 3, none⟩,
      ⟨some 41, (.slice 23 (.tmp 39) (some (.tmp 40)) none none), 23, none⟩,
      ⟨some 42, (.move (.tmp 7)), 23, none⟩,
      ⟨some 43, (.move (.tmp 8)), 3, none⟩,
      ⟨some 44, (.slice 23 (.tmp 42) none (some (.tmp 43)) none), 23, none⟩,
      ⟨some 45, (.call ⟨(.builtin .copy), #[(.tmp 41), (.tmp 44)], #[23, 23]⟩), 3, none⟩,
      ⟨some 46, (.binOp .add 3 (.tmp 38) (.tmp 45) 3), 3, none⟩,
      ⟨some 8, (.assign (.tmp 46)), 3, none⟩] [(0, 1), (0, 2), (1, 2), (0, 3), (0, 4), (1, 4), (2, 4), (3, 4), (0, 5), (1, 5), (2, 5), (3, 5), (4, 5), (0, 6), (1, 6), (2, 6), (3, 6), (0, 7)])))))
    (.seq (.reg [] [⟨some 47, (.move (.tmp 7)), 23, none⟩,
      ⟨some 4, (.assign (.tmp 47)), 23, none⟩])
    .ret))))))))
theorem CO80 {args : List AV} {sz : Nat} {els : List AV} (hn : args.length ≤ 48) (h : vc Tryz.prog T [] A80 (FinO [(.tmp 4)] sz els) ⟨envOf 0 args, []⟩) : CallO Tryz.prog 80 args sz els :=
  callO_of tok mixed Tryz.func80 (by kernel_rfl) (by kernel_rfl) (by kernel_rfl : Tryz.f80.ntmps = 48) (by kernel_rfl : Tryz.f80.body.bind (strip 48 (fun _ => [])) = some A80) hn h
def A81 : ACode :=
  (.seq (.reg [] [⟨some 6, (.assign (.const (.int .i64 0))), 3, none⟩])
    (.seq (.seq (.reg [] [⟨some 10, (.load 23 (.tmp 1)), 23, none⟩,
      ⟨some 11, (.move (.tmp 0)), 3, none⟩,
      ⟨some 12, (.indexAddr 23 (.tmp 10) (.tmp 11)), 0, none⟩,
      ⟨some 13, (.load 3 (.tmp 12)), 3, none⟩,
      ⟨some 14, (.binOp .eql 3 (.tmp 13) (.const (.int .i64 (-1))) 3), 4, none⟩])
    (.cond (.tmp 14)
    (.seq (.reg [] [⟨none, (.store 4 (.tmp 2) (.const (.bool true))), 0, none⟩])
    (.seq (.reg [] [⟨some 6, (.assign (.const (.int .i64 0))), 3, none⟩])
    .ret))
    .skip))
    (.seq (.seq (.reg [] [⟨some 15, (.load 23 (.tmp 1)), 23, none⟩,
      ⟨some 16, (.move (.tmp 0)), 3, none⟩,
      ⟨some 17, (.indexAddr 23 (.tmp 15) (.tmp 16)), 0, none⟩,
      ⟨some 18, (.load 3 (.tmp 17)), 3, none⟩,
      ⟨some 19, (.binOp .neq 3 (.tmp 18) (.const (.int .i64 (-2))) 3), 4, none⟩])
    (.cond (.tmp 19)
    (.seq (.reg [] [⟨some 20, (.load 23 (.tmp 1)), 23, none⟩,
      ⟨some 21, (.move (.tmp 0)), 3, none⟩,
      ⟨some 22, (.indexAddr 23 (.tmp 20) (.tmp 21)), 0, none⟩,
      ⟨some 23, (.load 3 (.tmp 22)), 3, none⟩,
      ⟨some 6, (.assign (.tmp 23)), 3, none⟩])
    .ret)
    .skip))
    (.seq (.reg [] [⟨some 24, (.load 23 (.tmp 1)), 23, none⟩,
      ⟨some 25, (.move (.tmp 0)), 3, none⟩,
      ⟨some 26, (.indexAddr 23 (.tmp 24) (.tmp 25)), 0, none⟩,
      ⟨none, (.store 3 (.tmp 26) (.const (.int .i64 (-1)))), 0, none⟩])
    (.seq (.reg [] [⟨some 7, (.assign (.const (.int .i64 0))), 3, none⟩])
    (.seq (.seq (.draw [] [⟨some 27, (.load 48 (.tmp 3)), 48, none⟩,
      ⟨some 28, (.nilCheck (.tmp 27)), 0, none⟩,
      ⟨some 29, (.fieldAddr 60 (.tmp 28) 0), 0, none⟩,
      ⟨some 30, (.load 22 (.tmp 29)), 22, none⟩,
      ⟨some 31, (.load 48 (.tmp 3)), 48, none⟩,
      ⟨some 32, (.nilCheck (.tmp 31)), 0, none⟩,
      ⟨some 33, (.fieldAddr 60 (.tmp 32) 1), 0, none⟩,
      ⟨some 34, (.load 27 (.tmp 33)), 27, none⟩,
      ⟨some 35, (.move (.tmp 0)), 3, none⟩,
      ⟨some 36, (.indexAddr 27 (.tmp 34) (.tmp 35)), 0, none⟩,
      ⟨some 37, (.load 23 (.tmp 36)), 23, none⟩,
      ⟨some 38, (.call ⟨(.value (.func 76)), #[(.tmp 30), (.tmp 37)], #[22, 23]⟩), 96, none⟩,
      ⟨some 39, (.call ⟨(.builtin .len), #[(.tmp 38)], #[96]⟩), 3, none⟩,
      ⟨some 40, (.move (.const (.int .i64 0))), 3, none⟩] [(0, 4), (1, 4), (2, 4), (3, 4), (0, 5), (1, 5), (2, 5), (3, 5), (0, 6), (1, 6), (2, 6), (3, 6), (0, 7), (1, 7), (2, 7), (3, 7), (0, 8), (1, 8), (2, 8), (3, 8), (4, 8), (5, 8), (6, 8), (7, 8), (0, 9), (1, 9), (2, 9), (3, 9), (0, 10), (1, 10), (2, 10), (3, 10), (0, 13), (1, 13), (2, 13), (3, 13), (4, 13), (5, 13), (6, 13), (7, 13), (8, 13), (9, 13), (10, 13), (11, 13), (12, 13)])
    (.block 0 (.loop (.seq (.reg [] [⟨some 41, (.binOp .lss 3 (.tmp 40) (.tmp 39) 3), 0, none⟩])
    (.seq (.cond (.tmp 41)
    .skip
    (.exit 0))
    (.seq (.block 1 (.seq (.reg [] [⟨some 42, (.indexAddr 96 (.tmp 38) (.tmp 40)), 0, none⟩,
      ⟨some 43, (.load 105 (.tmp 42)), 105, none⟩,
      ⟨some 9, (.alloc 105), 0, none⟩,
      ⟨none, (.store 105 (.tmp 9) (.tmp 43)), 0, none⟩])
    (.draw [] [⟨some 44, (.move (.tmp 7)), 3, none⟩,
      ⟨some 45, (.load 101 (.tmp 4)), 101, none⟩,
      ⟨some 46, (.load 48 (.tmp 3)), 48, none⟩,
      ⟨some 47, (.nilCheck (.tmp 46)), 0, none⟩,
      ⟨some 48, (.fieldAddr 60 (.tmp 47) 2), 0, none⟩,
      ⟨some 49, (.load 57 (.tmp 48)), 57, none⟩,
      ⟨some 50, (.fieldAddr 105 (.tmp 9) 1), 0, none⟩,
      ⟨some 51, (.load 23 (.tmp 50)), 23, none⟩,
      ⟨some 52, (.call ⟨(.value (.func 65)), #[(.tmp 51)], #[23]⟩), 9, none⟩,
      ⟨some 53, (.lookup 57 (.tmp 49) (.tmp 52) false), 3, none⟩,
      ⟨some 54, (.call ⟨(.value (.tmp 45)), #[(.tmp 53)], #[3]⟩), 3, none⟩,
      ⟨some 55, (.binOp .add 3 (.tmp 54) (.const (.int .i64 1)) 3), 3, none⟩,
      ⟨some 56, (.call ⟨(.builtin .max), #[(.tmp 44), (.tmp 55)], #[3, 3]⟩), 3, none⟩,
      ⟨some 7, (.assign (.tmp 56)), 3, none⟩] [(0, 1), (0, 2), (1, 2), (0, 3), (1, 3), (0, 4), (1, 4), (0, 5), (1, 5), (0, 6), (1, 6), (2, 6), (3, 6), (4, 6), (5, 6), (0, 7), (1, 7), (2, 7), (3, 7), (4, 7), (5, 7), (0, 8), (1, 8), (2, 8), (3, 8), (4, 8), (5, 8), (0, 9), (1, 9), (0, 10), (0, 11)])))
    (.reg [] [⟨some 57, (.binOp .add 3 (.tmp 40) (.const (.int .i64 1)) 3), 3, none⟩,
      ⟨some 40, (.move (.tmp 57)), 3, none⟩])))))))
    (.seq (.reg [] [⟨some 58, (.load 23 (.tmp 1)), 23, none⟩,
      ⟨some 59, (.move (.tmp 0)), 3, none⟩,
      ⟨some 60, (.move (.tmp 7)), 3, none⟩,
      ⟨some 61, (.indexAddr 23 (.tmp 58) (.tmp 59)), 0, none⟩,
      ⟨none, (.store 3 (.tmp 61) (.tmp 60)), 0, none⟩])
    (.seq (.reg [] [⟨some 62, (.move (.tmp 7)), 3, none⟩,
      ⟨some 6, (.assign (.tmp 62)), 3, none⟩])
    .ret))))))))
theorem CB81 {xs : List AV} {m m' : List (Nat × Option Box)} {r : AV} (hn : xs.length ≤ 63) (hm : (m.all fun p => p.2.isSome) = true) (h : vc Tryz.prog T [] A81 (FinB T [(.tmp 6)] m r m') ⟨envOf 0 xs, m⟩) : CallB Tryz.prog 81 xs m r m' :=
  callB_of tok mixed Tryz.func81 (by kernel_rfl) (by kernel_rfl) (by kernel_rfl : Tryz.f81.ntmps = 63) (by kernel_rfl : Tryz.f81.body.bind (strip 63 (fun _ => [])) = some A81) hn hm h

end Go.Proofs.YtkhddecnllcaiaaGreat
end

section
/- PURSE -/
/- Contracts: which words a word reaches, by their numbers. -/
namespace Go.Proofs.YtkhddecnllcaiaaGreat
open Go.Abs Go
set_option maxRecDepth 20000
set_option maxHeartbeats 8000000
attribute [local irreducible] PreK CondK CallK CallG CallX LoopK
attribute [local simp] avsEq avEq akind teq vkind vEq

@[simp] def bools (l : List Bool) : AV := .seq 1 (l.map bv) false
theorem CX66 {args : List AV} {r : AV} (hn : args.length ≤ 47) (h : vc Tryz.prog T [16] A66 (Fin T [.tmp 4] r) ⟨envOf 0 args, []⟩) : CallP Tryz.prog 66 args r :=
  callP_of tok mixed Tryz.func66 (by kernel_rfl) (by kernel_rfl) (by kernel_rfl : Tryz.f66.ntmps = 47) (by kernel_rfl : Tryz.f66.body.bind (strip 47 (fun _ => [])) = some A66) hn h
theorem el_app_right {α : Type} [Inhabited α] (a b : List α) (k : Nat) : el (a ++ b) (a.length + k) = el b k := by
  unfold el
  rw [List.getD_eq_getElem?_getD, List.getD_eq_getElem?_getD, List.getElem?_append_right (by omega)]
  rw [Nat.add_sub_cancel_left]
theorem nth_bv (l : List Bool) (k : Nat) (h : k < l.length) : nth (l.map bv) k = bv (el l k) := nth_map bv l k h
attribute [local simp] nth_bv
theorem nth_rep (n k : Nat) (a : AV) (h : k < n) : nth (List.replicate n a) k = a := by simp [nth, List.getD_eq_getElem?_getD, h]
/-- The program's search: the row of the first number is looked at, then it is left out. -/
theorem closure_c (rows : List (List Int)) (i : Nat) (hn : rows.length ≤ 300) (hi : i < rows.length) (hr : Rng rows) (hrow : ∀ j, j < rows.length → (el rows j).length ≤ 100) : CallP Tryz.prog 66 [wordsV rows, iv i] (bools (cloB rows i)) := by
  refine CX66 (by simp) ?_
  have hs0 := Search.start hi
  have hc0 := cntF_start hi
  generalize hS0 : (List.replicate rows.length false).set i true = S0 at hs0 hc0
  have hS1 : (List.replicate rows.length (bv false)).set i (bv true) = S0.map bv := by rw [← hS0, List.map_set]; simp
  simp only [bv] at hS1
  have hn0 := nth_rep rows.length i (bv false) hi
  simp only [bv] at hn0
  simp [A66]
  repeat (refine PreK.intro (by first | omega | (intros; first | omega | (refine ⟨by omega, ?_⟩; simp_all; done) | (simp_all; done) | (simp_all; omega))) fun _ => ?_; (try simp [hi, hn0]))
  refine LoopK.by (ι := Nat × List Int × List Bool × List Int) (fun x => ⟨[(6, .sl 16 x.1 x.2.1.length x.2.2.2.length), (5, .sl 11 1 0 rows.length), (0, wordsV rows)], [(11, some ⟨1, x.2.2.1.map bv, 1, false⟩), (16, some ⟨1, (x.2.1 ++ x.2.2.2).map iv, x.1, false⟩)]⟩)
    (fun x => cntF x.2.2.1 + x.2.2.2.length) (fun x => Search rows i x.2.2.1 x.2.2.2 ∧ x.2.1.length + cntF x.2.2.1 + x.2.2.2.length ≤ rows.length) (1, [], S0, [(i : Int)]) ⟨hs0, by simp; omega⟩ (by simp [hS1]) ?_
  intro ⟨v, pre, seen, todo⟩ Q' ⟨hs, hc⟩ hq he hret
  dsimp only at hs hc
  have hsl := hs.len
  cases todo with
  | nil =>
    try simp 
    refine CondK.intro (fun h1 => ?_) (fun h1 => ?_)
    · simp at h1
    · apply he
      rw [← hs.end hr hi]
      try simp 
      repeat' (first
        | ((with_reducible refine PreK.intro ?_ ?_); (next => (first | omega | (intros; first | omega | (refine ⟨by omega, ?_⟩; repeat (first | assumption | constructor)) | assumption))); intro _; try simp )
        | fail)
      exact List.take_of_length_le (by simp [hsl])
  | cons q rest =>
    obtain ⟨j, rfl, hj, hjs⟩ := hs.pend q (by simp)
    have hrj := hr j hj
    have hlj := hrow j hj
    have e0 : el (pre ++ (j : Int) :: rest) pre.length = (j : Int) := by
      exact el_app_right pre ((j : Int) :: rest) 0
    have e1 : pre.length < (pre ++ (j : Int) :: rest).length := by simp
    have n0 : nth ((pre ++ (j : Int) :: rest).map iv) pre.length = iv (j : Int) := by rw [nth_map _ _ _ e1, e0]
    simp only [iv, List.map_append, List.map_cons] at n0
    generalize hrw : el rows j = row at hrj hlj
    try simp 
    refine CondK.intro (fun h1 => ?_) (fun h1 => ?_)
    · repeat (refine PreK.intro (by first | omega | (intros; first | omega | (refine ⟨by omega, ?_⟩; simp_all; done) | (simp_all; done) | (simp_all; omega))) fun _ => ?_; (try simp [n0, hj, hrw]))
      refine LoopK.by (ι := Nat × Nat × List Int × List Bool × List Int) (fun x => ⟨[(29, iv x.1), (28, iv row.length), (27, ints row), (6, .sl 16 x.2.1 x.2.2.1.length (x.2.2.2.2.length + 1)), (5, .sl 11 1 0 rows.length), (0, wordsV rows)],
          [(11, some ⟨1, x.2.2.2.1.map bv, 1, false⟩), (16, some ⟨1, (x.2.2.1 ++ (j : Int) :: x.2.2.2.2).map iv, x.2.1, false⟩)]⟩)
        (fun x => row.length - x.1) (fun x => x.1 ≤ row.length ∧ x.2.2.1.length + cntF x.2.2.2.1 + (x.2.2.2.2.length + 1) ≤ rows.length ∧ Search rows i x.2.2.2.1 ((j : Int) :: x.2.2.2.2) ∧ cntF x.2.2.2.1 + x.2.2.2.2.length = cntF seen + rest.length ∧ ∀ p, p < x.1 → el x.2.2.2.1 (el row p).toNat = true)
        (0, v, pre, seen, rest) ⟨Nat.zero_le _, by simp at hc ⊢; omega, hs, rfl, fun p hp => absurd hp (Nat.not_lt_zero p)⟩ (by simp) ?_
      intro ⟨p, v', pre', seen', rest'⟩ Q2 ⟨hp', hpl, hs', hc', hall⟩ hq2 he2 hr2
      dsimp only at hp' hpl hs' hc' hall
      have hsl' := hs'.len
      try simp 
      refine CondK.intro (fun h2 => ?_) (fun h2 => ?_)
      · simp at h2
        obtain ⟨k, ek, hk⟩ := hrj p h2
        have hks : k < seen'.length := by omega
        have ek0 : (0 : Int) ≤ el row p := by omega
        have ekt : (el row p).toNat = k := by omega
        have ekn : el row p < (rows.length : Int) := by omega
        have hmem : (k : Int) ∈ el rows j := by
          rw [hrw, ← ek, el_eq _ _ h2]
          exact List.getElem_mem _
        repeat (refine PreK.intro (by first | omega | (intros; first | omega | (refine ⟨by omega, ?_⟩; simp_all; done) | (simp_all; done) | (simp_all; omega))) fun _ => ?_; (try simp [h2, hks, ek0, ekt, ekn, hsl', hk]))
        refine CondK.intro (fun h3 => ?_) (fun h3 => ?_)
        · have hf : el seen' k = false := by (try simp at h3); simpa using h3
          have hcs := cntF_set seen' k hks hf
          have hps := hs'.push (j := j) (by simp) hmem hk
          have hpush : ((pre' ++ (j : Int) :: rest').map iv).drop pre'.length = ((j : Int) :: rest').map iv := by simp
          repeat (refine PreK.intro (by first | omega | (intros; first | omega | (refine ⟨by omega, ?_⟩; simp_all; done) | (simp_all; done) | (simp_all; omega))) fun _ => ?_; (try simp [h2, hks, ek0, ekt, ekn, hsl', hk, hpush]))
          refine hq2 (p + 1, v' + 1, [], seen'.set k true, rest' ++ [(k : Int)]) _ ⟨by dsimp only; omega, by simp; omega, by simpa using hps, by simp; omega, fun q hq => ?_⟩ (by dsimp only; omega) ?_
          · dsimp only
            rw [el_setB _ _ _ _ hks]
            by_cases hqp : q = p
            · subst hqp; rw [ekt]; simp
            · split
              · rfl
              · exact hall q (by dsimp only at hq; omega)
          · simp [ek]
        · have hf : el seen' k = true := by (try simp at h3); simpa using h3
          repeat (refine PreK.intro (by first | omega | (intros; first | omega | (refine ⟨by omega, ?_⟩; simp_all; done) | (simp_all; done) | (simp_all; omega))) fun _ => ?_; (try simp ))
          refine hq2 (p + 1, v', pre', seen', rest') _ ⟨by dsimp only; omega, hpl, hs', hc', fun q hq => ?_⟩ (by dsimp only; omega) (by simp)
          dsimp only
          by_cases hqp : q = p
          · subst hqp; rw [ekt]; exact hf
          · exact hall q (by dsimp only at hq; omega)
      · simp at h2
        have hpe : p = row.length := by omega
        subst hpe
        try simp 
        apply he2
        try simp 
        have hpop := hs'.pop (todo' := rest') (j := j) (fun q => by simp) hr hj (by rw [hrw]; exact hall)
        repeat (refine PreK.intro (by first | omega | (intros; first | omega | (refine ⟨by omega, ?_⟩; simp_all; done) | (simp_all; done) | (simp_all; omega))) fun _ => ?_; (try simp ))
        refine hq (v', pre' ++ [(j : Int)], seen', rest') _ ⟨hpop, by simp; omega⟩ (by simp; omega) (by simp)
    · simp at h1
theorem common_c (a b : List Bool) (ha : a.length ≤ 1000) (hab : b.length = a.length) : CallP Tryz.prog 67 [bools a, bools b] (bv (commonB a b)) := by
  refine C67 (by simp) ?_
  have hany : ∀ n, n ≤ a.length → ((List.range a.length).drop n).any (fun k => el a k && el b k) = if n < a.length then (el a n && el b n) || ((List.range a.length).drop (n + 1)).any (fun k => el a k && el b k) else false := by
    intro n hn
    split
    · rename_i h
      rw [drop_cons (List.range a.length) n (by simpa using h), List.any_cons]
      have : el (List.range a.length) n = n := by rw [el_eq _ _ (by simpa using h)]; simp
      rw [this]
    · rename_i h
      rw [List.drop_eq_nil_of_le (by simp; omega)]
      rfl
  unfold commonB
  generalize hR : (List.range a.length).any (fun k => el a k && el b k) = R
  simp [A67]
  refine LoopK.by (ι := Nat) (fun i => ⟨[(8, iv i), (7, iv a.length), (0, bools a), (1, bools b)], []⟩) (fun i => a.length - i) (fun i => i ≤ a.length ∧ ((List.range a.length).drop i).any (fun k => el a k && el b k) = R) 0 ⟨Nat.zero_le _, by simpa using hR⟩ (by simp) ?_
  intro i Q' ⟨hi, hc⟩ hq he hr
  rw [hany i hi] at hc
  try simp 
  refine CondK.intro (fun h1 => ?_) (fun h1 => ?_)
  · simp at h1
    have h1b : i < b.length := by omega
    rw [if_pos h1] at hc
    cases hA : el a i
    · rw [hA] at hc
      repeat (refine PreK.intro (by first | omega | (intros; first | omega | (refine ⟨by omega, ?_⟩; simp_all; done) | (simp_all; done) | (simp_all; omega))) fun _ => ?_; (try simp [h1, h1b, hA]))
      refine CondK.intro (fun h2 => ?_) (fun h2 => ?_)
      · simp at h2
      · repeat (refine PreK.intro (by first | omega | (intros; first | omega | (refine ⟨by omega, ?_⟩; simp_all; done) | (simp_all; done) | (simp_all; omega))) fun _ => ?_; (try simp ))
        exact hq (i + 1) _ ⟨by omega, by simpa using hc⟩ (by omega) (by simp)
    · rw [hA] at hc
      cases hB : el b i
      · rw [hB] at hc
        repeat (refine PreK.intro (by first | omega | (intros; first | omega | (refine ⟨by omega, ?_⟩; simp_all; done) | (simp_all; done) | (simp_all; omega))) fun _ => ?_; (try simp [h1, h1b, hA, hB]))
        refine CondK.intro (fun h2 => ?_) (fun h2 => ?_)
        · simp at h2
        · repeat (refine PreK.intro (by first | omega | (intros; first | omega | (refine ⟨by omega, ?_⟩; simp_all; done) | (simp_all; done) | (simp_all; omega))) fun _ => ?_; (try simp ))
          exact hq (i + 1) _ ⟨by omega, by simpa using hc⟩ (by omega) (by simp)
      · rw [hB] at hc
        have : R = true := by rw [← hc]; simp
        subst this
        repeat (refine PreK.intro (by first | omega | (intros; first | omega | (refine ⟨by omega, ?_⟩; simp_all; done) | (simp_all; done) | (simp_all; omega))) fun _ => ?_; (try simp [h1, h1b, hA, hB]))
        refine CondK.intro (fun h2 => ?_) (fun h2 => ?_)
        · try simp 
          apply hr
          try simp 
        · simp at h2
  · simp at h1
    rw [if_neg (by omega)] at hc
    subst hc
    try simp 
    apply he
    try simp 
end Go.Proofs.YtkhddecnllcaiaaGreat
end

section
/- Contracts: feed's Ends. -/
namespace Go.Proofs.YtkhddecnllcaiaaGreat
open Go.Abs Go
set_option maxRecDepth 20000
set_option maxHeartbeats 2000000
attribute [local irreducible] PreK CondK CallK CallG CallX LoopK
attribute [local simp] avsEq avEq akind teq vkind vEq

def isEndM (s : List Rule) (u : Word) : Bool := decide ((movesM s u).length = 0)
theorem ends_c (s : List Rule) (g : Gr) (h : Sys.small s) (hs : sysErr s = 0) (hok : g.ok) : CallP Tryz.prog 36 [.ipt (graphV s g) 0] (wordsV (uniq (g.ws.filter (isEndM s)))) := by
  refine C36 (by simp) ?_
  have hnum := hok.num
  generalize hF : g.ws.filter (isEndM s) = F
  simp [A36, graphV]
  refine LoopK.by (ι := Nat × Nat × List Word) (fun x => ⟨[(0, .ipt (graphV s g) 0), (11, iv x.1), (10, iv g.ws.length), (9, wordsV g.ws), (3, .sl 3 x.2.1 0 x.2.2.length)], [(3, some ⟨1, x.2.2.map ints, x.2.1, false⟩)]⟩) (fun x => g.ws.length - x.1)
    (fun x => x.1 ≤ g.ws.length ∧ x.2.2.length ≤ x.1 ∧ (∀ y ∈ x.2.2, y.length ≤ 8) ∧ x.2.2 ++ (g.ws.drop x.1).filter (isEndM s) = F) (0, 1, []) (by simpa using hF) (by simp [graphV]) ?_
  intro ⟨i, v, k⟩ Q' ⟨hi, hk, hk8, hc⟩ hq he hr
  dsimp only at hi hk hk8 hc
  simp only [graphV]
  try simp 
  refine CondK.intro (fun h1 => ?_) (fun h1 => ?_)
  · simp at h1
    have hu := hok.fine _ (el_mem_of g.ws i h1)
    have hwl := (wordErr_zero hu).1
    rw [drop_cons g.ws i h1, List.filter_cons] at hc
    try simp [h1]
    repeat' (first
      | (refine CallX.pure (moves_c s (el g.ws i) h hs hu) (by simp) (by simp) ?_; try simp [h1])
      | (refine CallK.intro (moves_c s (el g.ws i) h hs hu) (by simp) (by simp) ?_; try simp [h1])
      | (refine CallG.intro (fun _ => moves_c s (el g.ws i) h hs hu) (by simp) (by simp) ?_; try simp [h1])
      | ((with_reducible refine PreK.intro ?_ ?_); (next => (first | omega | (intros; first | omega | (refine ⟨by omega, ?_⟩; repeat (first | assumption | constructor)) | assumption))); intro _; try simp [h1])
      | fail)
    refine CondK.intro (fun h2 => ?_) (fun h2 => ?_)
    · have e : isEndM s (el g.ws i) = true := by (try simp at h2); unfold isEndM; simp [h2]
      rw [if_pos e] at hc
      try simp [h1]
      repeat' (first
        | (refine CallX.pure ((clone_o (el g.ws i) (by omega)).toP) (by simp) (by simp) ?_; try simp [h1])
        | (refine CallK.intro ((clone_o (el g.ws i) (by omega)).toP) (by simp) (by simp) ?_; try simp [h1])
        | (refine CallG.intro (fun _ => (clone_o (el g.ws i) (by omega)).toP) (by simp) (by simp) ?_; try simp [h1])
        | ((with_reducible refine PreK.intro ?_ ?_); (next => (first | omega | (intros; first | omega | (refine ⟨by omega, ?_⟩; repeat (first | assumption | constructor)) | assumption))); intro _; try simp [h1])
        | fail)
      refine hq (i + 1, v + 1, k ++ [el g.ws i]) _ ⟨by dsimp only; omega, by simp; omega, fun y hy => ?_, by simpa using hc⟩ (by dsimp only; omega) (by simp [graphV])
      rcases List.mem_append.1 hy with hy | hy
      · exact hk8 y hy
      · simp only [List.mem_singleton] at hy
        subst hy; exact hwl
    · have e : isEndM s (el g.ws i) = false := by (try simp at h2); unfold isEndM; simp [h2]
      rw [if_neg (by simp [e])] at hc
      try simp 
      repeat' (first
        | ((with_reducible refine PreK.intro ?_ ?_); (next => (first | omega | (intros; first | omega | (refine ⟨by omega, ?_⟩; repeat (first | assumption | constructor)) | assumption))); intro _; try simp )
        | fail)
      exact hq (i + 1, v, k) _ ⟨by dsimp only; omega, by dsimp only; omega, hk8, hc⟩ (by dsimp only; omega) (by simp [graphV])
  · simp at h1
    rw [List.drop_eq_nil_of_le (by omega)] at hc
    simp only [List.filter_nil, List.append_nil] at hc
    subst hc
    try simp 
    apply he
    have hsl := sorted_L k (by omega) (fun x hx => by have := hk8 x hx; omega)
    have hsl2 : CallL Tryz.prog 40 [] 1 (k.map ints) [] (.part (uniq k).length) ((uniq k).map ints ++ List.replicate (k.length - (uniq k).length) (.seq 1 [] true)) := hsl
    generalize uniq k = U at hsl2
    try simp 
    refine CallX.lend [] (id := 3) (ver := v) (n := k.length) (b := ⟨1, k.map ints, v, false⟩) [] (.part U.length) _ (by simp) (by simp) (by simp) (by simp) (by simp) (by simp) (by simp) (by simpa using hsl2) ?_
    try simp 
def EndsE (s : List Rule) (w : Word) : List Word × Int := if swErr s w ≠ 0 then ([], swErr s w) else match reachG s w with
  | none => ([], 3)
  | some g => (uniq (g.ws.filter (isEndM s)), 0)
theorem Ends_c (s : List Rule) (w : List Int) (h : Sys.small s) (hw : w.length ≤ 1000) : CallP Tryz.prog 10 [rulesV s, ints w] (.tup [wordsV (EndsE s w).1, iv (EndsE s w).2]) := by
  refine C10 (by simp) ?_
  have hrc := reached_c s w h hw
  by_cases h1 : swErr s w = 0
  · have e1 : reachedV s w = reachV s (reachG s w) := by simp [reachedV, h1]
    rw [e1] at hrc
    cases hg : reachG s w with
    | none =>
      rw [hg] at hrc
      have e2 : EndsE s w = ([], 3) := by simp [EndsE, h1, hg]
      rw [e2]
      simp only [reachV] at hrc
      simp [A10]
      try simp 
      repeat' (first
        | (refine CallX.pure (hrc) (by simp) (by simp) ?_; try simp )
        | (refine CallK.intro (hrc) (by simp) (by simp) ?_; try simp )
        | (refine CallG.intro (fun _ => hrc) (by simp) (by simp) ?_; try simp )
        | ((with_reducible refine PreK.intro ?_ ?_); (next => (first | omega | (intros; first | omega | (refine ⟨by omega, ?_⟩; repeat (first | assumption | constructor)) | assumption))); intro _; try simp )
        | fail)
      refine CondK.intro (fun h2 => ?_) (fun h2 => ?_)
      · try simp 
        repeat' (first
          | ((with_reducible refine PreK.intro ?_ ?_); (next => (first | omega | (intros; first | omega | (refine ⟨by omega, ?_⟩; repeat (first | assumption | constructor)) | assumption))); intro _; try simp )
          | fail)
      · simp at h2
    | some g =>
      rw [hg] at hrc
      have hec := ends_c s g h (swErr_zero h1).1 (reachG_ok h1 hg)
      have e2 : EndsE s w = (uniq (g.ws.filter (isEndM s)), 0) := by simp [EndsE, h1, hg]
      rw [e2]
      simp only [reachV, graphV] at hrc
      simp only [graphV] at hec
      generalize uniq (g.ws.filter (isEndM s)) = U at hec
      simp [A10]
      try simp 
      repeat' (first
        | (refine CallX.pure (hrc) (by simp) (by simp) ?_; try simp )
        | (refine CallK.intro (hrc) (by simp) (by simp) ?_; try simp )
        | (refine CallG.intro (fun _ => hrc) (by simp) (by simp) ?_; try simp )
        | ((with_reducible refine PreK.intro ?_ ?_); (next => (first | omega | (intros; first | omega | (refine ⟨by omega, ?_⟩; repeat (first | assumption | constructor)) | assumption))); intro _; try simp )
        | fail)
      refine CondK.intro (fun h2 => ?_) (fun h2 => ?_)
      · simp at h2
      · try simp 
        repeat' (first
          | (refine CallX.pure (hec) (by simp) (by simp) ?_; try simp )
          | (refine CallK.intro (hec) (by simp) (by simp) ?_; try simp )
          | (refine CallG.intro (fun _ => hec) (by simp) (by simp) ?_; try simp )
          | ((with_reducible refine PreK.intro ?_ ?_); (next => (first | omega | (intros; first | omega | (refine ⟨by omega, ?_⟩; repeat (first | assumption | constructor)) | assumption))); intro _; try simp )
          | fail)
  · have e1 : reachedV s w = .tup [.raw (.pointer none), iv (swErr s w)] := by simp [reachedV, h1]
    rw [e1] at hrc
    have e2 : EndsE s w = ([], swErr s w) := by simp [EndsE, h1]
    rw [e2]
    simp [A10]
    try simp 
    repeat' (first
      | (refine CallX.pure (hrc) (by simp) (by simp) ?_; try simp )
      | (refine CallK.intro (hrc) (by simp) (by simp) ?_; try simp )
      | (refine CallG.intro (fun _ => hrc) (by simp) (by simp) ?_; try simp )
      | ((with_reducible refine PreK.intro ?_ ?_); (next => (first | omega | (intros; first | omega | (refine ⟨by omega, ?_⟩; repeat (first | assumption | constructor)) | assumption))); intro _; try simp )
      | fail)
    refine CondK.intro (fun h2 => ?_) (fun h2 => ?_)
    · try simp 
      repeat' (first
        | ((with_reducible refine PreK.intro ?_ ?_); (next => (first | omega | (intros; first | omega | (refine ⟨by omega, ?_⟩; repeat (first | assumption | constructor)) | assumption))); intro _; try simp )
        | fail)
    · simp at h2
      exact absurd h2 h1
end Go.Proofs.YtkhddecnllcaiaaGreat
end

section
/- Contracts: equal lists; what is known of feed. -/
namespace Go.Proofs.YtkhddecnllcaiaaGreat
open Go.Abs Go
set_option maxRecDepth 20000
set_option maxHeartbeats 2000000
attribute [local irreducible] PreK CondK CallK CallG CallX LoopK
attribute [local simp] avsEq avEq akind teq vkind vEq

theorem same1_c (a b : List Int) (ha : a.length ≤ big) : CallP Tryz.prog 32 [ints a, ints b] (bv (decide (a = b))) := by
  refine C32 (by simp) ?_
  generalize hR : decide (a = b) = R
  simp [A32]
  refine CondK.intro (fun h => ?_) (fun h => ?_)
  · simp at h
    have : a ≠ b := fun e => h (by rw [e])
    simp [this] at hR
    simp [hR]
  · simp at h
    simp
    refine LoopK.by (fun i : Nat => ⟨[(5, iv i), (4, bv false), (0, ints a), (1, ints b)], []⟩) (fun i => a.length - i) (fun i => i ≤ a.length ∧ decide (a.drop i = b.drop i) = R) 0 (by simpa using hR) (by simp) ?_
    intro i Q' ⟨hi, hc⟩ hq he hr
    simp
    refine CondK.intro (fun h2 => ?_) (fun h2 => ?_)
    · simp at h2
      rw [drop_cons a i h2, drop_cons b i (by omega)] at hc
      simp [h2, show i < b.length by omega]
      refine CondK.intro (fun h3 => ?_) (fun h3 => ?_)
      · simp at h3
        simp [h3] at hc
        simp
        apply hr
        simp [hc]
      · simp at h3
        simp [h3] at hc
        simp
        refine PreK.intro (by simp only [big] at ha; omega) fun _ => ?_
        simp
        exact hq (i + 1) _ ⟨by omega, by simpa using hc⟩ (by omega) (by simp)
    · simp at h2
      rw [List.drop_eq_nil_of_le (by omega), List.drop_eq_nil_of_le (by omega)] at hc
      simp at hc
      simp
      apply he
      simp [hc]
theorem sameLists_c (a b : List Word) (ha : a.length ≤ big) (hw : ∀ x ∈ a, x.length ≤ big) : CallP Tryz.prog 12 [wordsV a, wordsV b] (bv (decide (a = b))) := by
  refine C12 (by simp) ?_
  generalize hR : decide (a = b) = R
  simp only [big] at ha
  simp [A12]
  refine CondK.intro (fun h => ?_) (fun h => ?_)
  · simp at h
    have : a ≠ b := fun e => h (by rw [e])
    simp [this] at hR
    simp [hR]
  · simp at h
    try simp 
    refine LoopK.by (fun i : Nat => ⟨[(5, iv i), (0, wordsV a), (1, wordsV b)], []⟩) (fun i => a.length - i) (fun i => i ≤ a.length ∧ decide (a.drop i = b.drop i) = R) 0 (by simpa using hR) (by simp) ?_
    intro i Q' ⟨hi, hc⟩ hq he hr
    try simp 
    refine CondK.intro (fun h2 => ?_) (fun h2 => ?_)
    · simp at h2
      have h2b : i < b.length := by omega
      have hs := same1_c (el a i) (el b i) (hw _ (el_mem_of a i h2))
      rw [drop_cons a i h2, drop_cons b i h2b] at hc
      repeat (refine PreK.intro (by first | omega | (intros; first | omega | (refine ⟨by omega, ?_⟩; simp_all; done) | (simp_all; done) | (simp_all; omega))) fun _ => ?_; (try simp [h2, h2b]))
      refine CallK.intro (by simpa using hs) (by simp) (by simp) ?_
      try simp 
      repeat (refine PreK.intro (by first | omega | (intros; first | omega | (refine ⟨by omega, ?_⟩; simp_all; done) | (simp_all; done) | (simp_all; omega))) fun _ => ?_; (try simp ))
      refine CondK.intro (fun h3 => ?_) (fun h3 => ?_)
      · simp at h3
        simp [h3] at hc
        try simp 
        apply hr
        simp [hc]
      · simp at h3
        simp [h3] at hc
        repeat (refine PreK.intro (by first | omega | (intros; first | omega | (refine ⟨by omega, ?_⟩; simp_all; done) | (simp_all; done) | (simp_all; omega))) fun _ => ?_; (try simp ))
        exact hq (i + 1) _ ⟨by omega, by simpa using hc⟩ (by omega) (by simp)
    · simp at h2
      rw [List.drop_eq_nil_of_le (by omega), List.drop_eq_nil_of_le (by omega)] at hc
      simp at hc
      try simp 
      apply he
      simp [hc]
theorem known_c : CallP Tryz.prog 9 [] (bv true) := by
  refine C9 (by simp) ?_
  have s1 : Sys.small [⟨0, [1, 1], [], []⟩, ⟨1, [], [], []⟩] := ⟨by simp, by intro r hr; simp at hr; rcases hr with rfl | rfl <;> exact ⟨by simp, by simp, by simp⟩⟩
  have s2 : Sys.small [⟨0, [1], [], []⟩, ⟨0, [2], [], []⟩] := ⟨by simp, by intro r hr; simp at hr; rcases hr with rfl | rfl <;> exact ⟨by simp, by simp, by simp⟩⟩
  have hW := Weights_c [⟨0, [1, 1], [], []⟩, ⟨1, [], [], []⟩] s1
  have hE := Ends_c [⟨0, [1], [], []⟩, ⟨0, [2], [], []⟩] [0] s2 (by simp)
  have e1 : WeightsR [⟨0, [1, 1], [], []⟩, ⟨1, [], [], []⟩] = ([3, 1, 0, 0, 0, 0], true, 0) := by decide
  have e2 : EndsE [⟨0, [1], [], []⟩, ⟨0, [2], [], []⟩] [0] = ([[1], [2]], 0) := by decide
  rw [e1] at hW
  rw [e2] at hE
  simp [A9]
  simp at hW hE
  refine CallX.pure (CallP.weak (by simpa [weakL, weak] using hW)) (by simp) (by simp) ?_
  try simp 
  refine CallX.pure (CallP.weak (by simpa [weakL, weak] using hE)) (by simp) (by simp) ?_
  have h1 := same1_c [3, 1, 0, 0, 0, 0] [3, 1, 0, 0, 0, 0] (by simp [big])
  have h2 := sameLists_c [[1], [2]] [[1], [2]] (by simp [big]) (by simp [big])
  simp at h2
  try simp 
  repeat' (first
    | (refine CallX.pure (h1) (by simp) (by simp) ?_; try simp )
    | (refine CallK.intro (h1) (by simp) (by simp) ?_; try simp )
    | (refine CallG.intro (fun _ => h1) (by simp) (by simp) ?_; try simp )
    | ((with_reducible refine PreK.intro ?_ ?_); (next => (first | omega | (intros; first | omega | (refine ⟨by omega, ?_⟩; repeat (first | assumption | constructor)) | assumption))); intro _; try simp )
    | fail)
  refine CallG.intro (fun _ => CallP.weak (by simpa [weakL, weak] using h2)) (by simp) (by simp) ?_
  try simp 
end Go.Proofs.YtkhddecnllcaiaaGreat
end

section
/- Plain: where two derivations differ first; equal ones end alike. -/
namespace Go.Proofs.YtkhddecnllcaiaaGreat
open Go.Abs Go

end Go.Proofs.YtkhddecnllcaiaaGreat
end

section
/- Contracts: where derivations differ, and the statement OrderDiffers. -/
namespace Go.Proofs.YtkhddecnllcaiaaGreat
open Go.Abs Go
attribute [local simp] avsEq avEq akind teq vkind vEq

end Go.Proofs.YtkhddecnllcaiaaGreat
end

section
/- Contracts: all words; the words that have a form. -/
namespace Go.Proofs.YtkhddecnllcaiaaGreat
open Go.Abs Go
attribute [local simp] avsEq avEq akind teq vkind vEq

theorem take_map_one {α β : Type} (f : α → β) (l : List α) (x : β) : (l.map f ++ [x]).take (l.length + 1) = l.map f ++ [x] := by rw [List.take_of_length_le (by simp)]
end Go.Proofs.YtkhddecnllcaiaaGreat
end

section
/- Contracts: lists of words in order; Bases on both sides, and the statement OrderBases. -/
namespace Go.Proofs.YtkhddecnllcaiaaGreat
open Go.Abs Go
set_option maxRecDepth 20000
set_option maxHeartbeats 2000000
attribute [local irreducible] PreK CondK CallK CallG CallX LoopK
attribute [local simp] avsEq avEq akind teq vkind vEq

end Go.Proofs.YtkhddecnllcaiaaGreat
end

section
/- Functions of the cut as the value layer reads them. (written by gen.py) -/
set_option maxRecDepth 20000
namespace Go.Proofs.YtkhddecnllcaiaaGreat
open Go.Abs Go

def A14 : ACode :=
  (.seq (.reg [] [⟨some 4, (.assign (.const (.bool false))), 4, none⟩,
      ⟨some 5, (.assign (.const (.int .i64 0))), 28, none⟩])
    (.seq (.reg [] [⟨some 11, (.move (.tmp 0)), 22, none⟩,
      ⟨some 12, (.move (.tmp 1)), 23, none⟩,
      ⟨some 13, (.call ⟨(.value (.func 35)), #[(.tmp 11), (.tmp 12)], #[22, 23]⟩), 49, none⟩,
      ⟨some 10, (.move (.tmp 13)), 49, none⟩,
      ⟨some 14, (.extract (.tmp 10) 0), 48, none⟩,
      ⟨some 15, (.extract (.tmp 10) 1), 28, none⟩,
      ⟨some 6, (.assign (.tmp 14)), 48, none⟩,
      ⟨some 7, (.assign (.tmp 15)), 28, none⟩])
    (.seq (.seq (.reg [] [⟨some 16, (.move (.tmp 7)), 28, none⟩,
      ⟨some 17, (.binOp .neq 28 (.tmp 16) (.const (.int .i64 0)) 28), 4, none⟩])
    (.cond (.tmp 17)
    (.seq (.reg [] [⟨some 18, (.move (.tmp 7)), 28, none⟩,
      ⟨some 4, (.assign (.const (.bool false))), 4, none⟩,
      ⟨some 5, (.assign (.tmp 18)), 28, none⟩])
    .ret)
    .skip))
    (.seq (.reg [] [⟨some 20, (.move (.tmp 6)), 48, none⟩,
      ⟨some 21, (.call ⟨(.value (.func 41)), #[(.tmp 20)], #[48]⟩), 63, none⟩,
      ⟨some 19, (.move (.tmp 21)), 63, none⟩,
      ⟨some 22, (.extract (.tmp 19) 0), 3, none⟩,
      ⟨some 23, (.extract (.tmp 19) 1), 4, none⟩,
      ⟨some 8, (.assign (.tmp 22)), 3, none⟩,
      ⟨some 9, (.assign (.tmp 23)), 4, none⟩])
    (.seq (.reg [] [⟨some 24, (.move (.tmp 9)), 4, none⟩,
      ⟨some 25, (.unOp .not 4 (.tmp 24)), 4, none⟩,
      ⟨some 4, (.assign (.tmp 25)), 4, none⟩,
      ⟨some 5, (.assign (.const (.int .i64 0))), 28, none⟩])
    .ret)))))
theorem C14 {args : List AV} {r : AV} (hn : args.length ≤ 26) (h : vc Tryz.prog T [] A14 (Fin T [(.tmp 4), (.tmp 5)] r) ⟨envOf 0 args, []⟩) : CallP Tryz.prog 14 args r :=
  callP_of tok mixed Tryz.func14 (by kernel_rfl) (by kernel_rfl) (by kernel_rfl : Tryz.f14.ntmps = 26) (by kernel_rfl : Tryz.f14.body.bind (strip 26 (fun _ => [])) = some A14) hn h
def A28 : ACode :=
  (.seq (.reg [] [⟨some 4, (.assign (.const (.bool false))), 4, none⟩,
      ⟨some 5, (.assign (.const (.int .i64 0))), 28, none⟩])
    (.seq (.reg [] [⟨some 20, (.move (.tmp 0)), 22, none⟩,
      ⟨some 21, (.move (.tmp 1)), 23, none⟩,
      ⟨some 22, (.call ⟨(.value (.func 35)), #[(.tmp 20), (.tmp 21)], #[22, 23]⟩), 49, none⟩,
      ⟨some 19, (.move (.tmp 22)), 49, none⟩,
      ⟨some 23, (.extract (.tmp 19) 0), 48, none⟩,
      ⟨some 24, (.extract (.tmp 19) 1), 28, none⟩,
      ⟨some 6, (.assign (.tmp 23)), 48, none⟩,
      ⟨some 7, (.assign (.tmp 24)), 28, none⟩])
    (.seq (.seq (.reg [] [⟨some 25, (.move (.tmp 7)), 28, none⟩,
      ⟨some 26, (.binOp .neq 28 (.tmp 25) (.const (.int .i64 0)) 28), 4, none⟩])
    (.cond (.tmp 26)
    (.seq (.reg [] [⟨some 27, (.move (.tmp 7)), 28, none⟩,
      ⟨some 4, (.assign (.const (.bool false))), 4, none⟩,
      ⟨some 5, (.assign (.tmp 27)), 28, none⟩])
    .ret)
    .skip))
    (.seq (.reg [] [⟨some 28, (.move (.tmp 6)), 48, none⟩,
      ⟨some 29, (.nilCheck (.tmp 28)), 0, none⟩,
      ⟨some 30, (.fieldAddr 60 (.tmp 29) 1), 0, none⟩,
      ⟨some 31, (.load 27 (.tmp 30)), 27, none⟩,
      ⟨some 32, (.call ⟨(.builtin .len), #[(.tmp 31)], #[27]⟩), 3, none⟩,
      ⟨some 33, (.makeSlice 27 (.tmp 32) (.tmp 32)), 27, none⟩,
      ⟨some 8, (.assign (.tmp 33)), 27, none⟩])
    (.seq (.seq (.reg [] [⟨some 34, (.move (.tmp 6)), 48, none⟩,
      ⟨some 35, (.nilCheck (.tmp 34)), 0, none⟩,
      ⟨some 36, (.fieldAddr 60 (.tmp 35) 1), 0, none⟩,
      ⟨some 37, (.load 27 (.tmp 36)), 27, none⟩,
      ⟨some 38, (.call ⟨(.builtin .len), #[(.tmp 37)], #[27]⟩), 3, none⟩,
      ⟨some 39, (.move (.const (.int .i64 0))), 3, none⟩])
    (.block 0 (.loop (.seq (.reg [] [⟨some 40, (.binOp .lss 3 (.tmp 39) (.tmp 38) 3), 0, none⟩])
    (.seq (.cond (.tmp 40)
    .skip
    (.exit 0))
    (.seq (.block 1 (.seq (.reg [] [⟨some 41, (.move (.tmp 39)), 3, none⟩,
      ⟨some 42, (.indexAddr 27 (.tmp 37) (.tmp 39)), 0, none⟩,
      ⟨some 43, (.load 23 (.tmp 42)), 23, none⟩,
      ⟨some 9, (.assign (.tmp 41)), 3, none⟩,
      ⟨some 10, (.assign (.tmp 43)), 23, none⟩])
    (.seq (.reg [] [⟨some 44, (.move (.tmp 0)), 22, none⟩,
      ⟨some 45, (.move (.tmp 10)), 23, none⟩,
      ⟨some 46, (.call ⟨(.value (.func 64)), #[(.tmp 44), (.tmp 45)], #[22, 23]⟩), 27, none⟩,
      ⟨some 47, (.call ⟨(.builtin .len), #[(.tmp 46)], #[27]⟩), 3, none⟩,
      ⟨some 48, (.move (.const (.int .i64 0))), 3, none⟩])
    (.block 2 (.loop (.seq (.reg [] [⟨some 49, (.binOp .lss 3 (.tmp 48) (.tmp 47) 3), 0, none⟩])
    (.seq (.cond (.tmp 49)
    .skip
    (.exit 2))
    (.seq (.block 3 (.seq (.reg [] [⟨some 50, (.indexAddr 27 (.tmp 46) (.tmp 48)), 0, none⟩,
      ⟨some 51, (.load 23 (.tmp 50)), 23, none⟩,
      ⟨some 12, (.assign (.tmp 51)), 23, none⟩])
    (.draw [] [⟨some 52, (.move (.tmp 8)), 27, none⟩,
      ⟨some 53, (.move (.tmp 9)), 3, none⟩,
      ⟨some 54, (.move (.tmp 8)), 27, none⟩,
      ⟨some 55, (.move (.tmp 9)), 3, none⟩,
      ⟨some 56, (.indexAddr 27 (.tmp 54) (.tmp 55)), 0, none⟩,
      ⟨some 57, (.load 23 (.tmp 56)), 23, none⟩,
      ⟨some 58, (.move (.tmp 6)), 48, none⟩,
      ⟨some 59, (.nilCheck (.tmp 58)), 0, none⟩,
      ⟨some 60, (.fieldAddr 60 (.tmp 59) 2), 0, none⟩,
      ⟨some 61, (.load 57 (.tmp 60)), 57, none⟩,
      ⟨some 62, (.move (.tmp 12)), 23, none⟩,
      ⟨some 63, (.call ⟨(.value (.func 65)), #[(.tmp 62)], #[23]⟩), 9, none⟩,
      ⟨some 64, (.lookup 57 (.tmp 61) (.tmp 63) false), 3, none⟩,
      ⟨some 65, (.buildSlice 23 1 #[(0, (.tmp 64))]), 23, none⟩,
      ⟨some 66, (.call ⟨(.builtin .append), #[(.tmp 57), (.tmp 65)], #[23, 23]⟩), 23, none⟩,
      ⟨some 67, (.indexAddr 27 (.tmp 52) (.tmp 53)), 0, none⟩,
      ⟨none, (.store 23 (.tmp 67) (.tmp 66)), 0, none⟩] [(0, 1), (0, 2), (1, 2), (0, 3), (1, 3), (2, 3), (0, 4), (1, 4), (0, 5), (1, 5), (0, 6), (1, 6), (2, 6), (3, 6), (4, 6), (5, 6), (0, 7), (1, 7), (2, 7), (3, 7), (4, 7), (5, 7), (0, 8), (1, 8), (2, 8), (3, 8), (4, 8), (5, 8), (0, 9), (1, 9), (2, 9), (3, 9), (4, 9), (5, 9), (0, 10), (1, 10), (2, 10), (3, 10), (4, 10), (5, 10), (6, 10), (7, 10), (8, 10), (9, 10), (0, 11), (1, 11), (2, 11), (3, 11), (4, 11), (5, 11), (6, 11), (7, 11), (8, 11), (9, 11), (0, 12), (1, 12), (2, 12), (3, 12), (4, 12), (5, 12), (0, 13), (1, 13), (2, 13), (3, 13), (4, 13), (5, 13), (0, 14), (1, 14)])))
    (.reg [] [⟨some 68, (.binOp .add 3 (.tmp 48) (.const (.int .i64 1)) 3), 3, none⟩,
      ⟨some 48, (.move (.tmp 68)), 3, none⟩])))))))))
    (.reg [] [⟨some 69, (.binOp .add 3 (.tmp 39) (.const (.int .i64 1)) 3), 3, none⟩,
      ⟨some 39, (.move (.tmp 69)), 3, none⟩])))))))
    (.seq (.reg [] [⟨some 70, (.move (.tmp 6)), 48, none⟩,
      ⟨some 71, (.nilCheck (.tmp 70)), 0, none⟩,
      ⟨some 72, (.fieldAddr 60 (.tmp 71) 1), 0, none⟩,
      ⟨some 73, (.load 27 (.tmp 72)), 27, none⟩,
      ⟨some 74, (.call ⟨(.builtin .len), #[(.tmp 73)], #[27]⟩), 3, none⟩,
      ⟨some 75, (.makeSlice 88 (.tmp 74) (.tmp 74)), 88, none⟩,
      ⟨some 13, (.assign (.tmp 75)), 88, none⟩])
    (.seq (.seq (.reg [] [⟨some 76, (.move (.tmp 13)), 88, none⟩,
      ⟨some 77, (.call ⟨(.builtin .len), #[(.tmp 76)], #[88]⟩), 3, none⟩,
      ⟨some 78, (.move (.const (.int .i64 0))), 3, none⟩])
    (.block 4 (.loop (.seq (.reg [] [⟨some 79, (.binOp .lss 3 (.tmp 78) (.tmp 77) 3), 0, none⟩])
    (.seq (.cond (.tmp 79)
    .skip
    (.exit 4))
    (.seq (.block 5 (.seq (.reg [] [⟨some 80, (.move (.tmp 78)), 3, none⟩,
      ⟨some 14, (.assign (.tmp 80)), 3, none⟩])
    (.reg [] [⟨some 81, (.move (.tmp 13)), 88, none⟩,
      ⟨some 82, (.move (.tmp 14)), 3, none⟩,
      ⟨some 83, (.move (.tmp 8)), 27, none⟩,
      ⟨some 84, (.move (.tmp 14)), 3, none⟩,
      ⟨some 85, (.call ⟨(.value (.func 66)), #[(.tmp 83), (.tmp 84)], #[27, 3]⟩), 89, none⟩,
      ⟨some 86, (.indexAddr 88 (.tmp 81) (.tmp 82)), 0, none⟩,
      ⟨none, (.store 89 (.tmp 86) (.tmp 85)), 0, none⟩])))
    (.reg [] [⟨some 87, (.binOp .add 3 (.tmp 78) (.const (.int .i64 1)) 3), 3, none⟩,
      ⟨some 78, (.move (.tmp 87)), 3, none⟩])))))))
    (.seq (.seq (.reg [] [⟨some 88, (.move (.tmp 8)), 27, none⟩,
      ⟨some 89, (.call ⟨(.builtin .len), #[(.tmp 88)], #[27]⟩), 3, none⟩,
      ⟨some 90, (.move (.const (.int .i64 0))), 3, none⟩])
    (.block 6 (.loop (.seq (.reg [] [⟨some 91, (.binOp .lss 3 (.tmp 90) (.tmp 89) 3), 0, none⟩])
    (.seq (.cond (.tmp 91)
    .skip
    (.exit 6))
    (.seq (.block 7 (.seq (.reg [] [⟨some 92, (.indexAddr 27 (.tmp 88) (.tmp 90)), 0, none⟩,
      ⟨some 93, (.load 23 (.tmp 92)), 23, none⟩,
      ⟨some 16, (.assign (.tmp 93)), 23, none⟩])
    (.seq (.reg [] [⟨some 94, (.move (.tmp 16)), 23, none⟩,
      ⟨some 95, (.call ⟨(.builtin .len), #[(.tmp 94)], #[23]⟩), 3, none⟩,
      ⟨some 96, (.move (.const (.int .i64 0))), 3, none⟩])
    (.block 8 (.loop (.seq (.reg [] [⟨some 97, (.binOp .lss 3 (.tmp 96) (.tmp 95) 3), 0, none⟩])
    (.seq (.cond (.tmp 97)
    .skip
    (.exit 8))
    (.seq (.block 9 (.seq (.reg [] [⟨some 98, (.move (.tmp 96)), 3, none⟩,
      ⟨some 17, (.assign (.tmp 98)), 3, none⟩])
    (.seq (.reg [] [⟨some 99, (.move (.tmp 17)), 3, none⟩,
      ⟨some 100, (.move (.const (.int .i64 0))), 3, none⟩])
    (.block 10 (.loop (.seq (.reg [] [⟨some 101, (.binOp .lss 3 (.tmp 100) (.tmp 99) 3), 4, none⟩])
    (.seq (.cond (.tmp 101)
    .skip
    (.exit 10))
    (.seq (.block 11 (.seq (.reg [] [⟨some 102, (.move (.tmp 100)), 3, none⟩,
      ⟨some 18, (.assign (.tmp 102)), 3, none⟩])
    (.seq (.draw [] [⟨some 103, (.move (.tmp 13)), 88, none⟩,
      ⟨some 104, (.move (.tmp 16)), 23, none⟩,
      ⟨some 105, (.move (.tmp 17)), 3, none⟩,
      ⟨some 106, (.indexAddr 23 (.tmp 104) (.tmp 105)), 0, none⟩,
      ⟨some 107, (.load 3 (.tmp 106)), 3, none⟩,
      ⟨some 108, (.indexAddr 88 (.tmp 103) (.tmp 107)), 0, none⟩,
      ⟨some 109, (.load 89 (.tmp 108)), 89, none⟩,
      ⟨some 110, (.move (.tmp 13)), 88, none⟩,
      ⟨some 111, (.move (.tmp 16)), 23, none⟩,
      ⟨some 112, (.move (.tmp 18)), 3, none⟩,
      ⟨some 113, (.indexAddr 23 (.tmp 111) (.tmp 112)), 0, none⟩,
      ⟨some 114, (.load 3 (.tmp 113)), 3, none⟩,
      ⟨some 115, (.indexAddr 88 (.tmp 110) (.tmp 114)), 0, none⟩,
      ⟨some 116, (.load 89 (.tmp 115)), 89, none⟩,
      ⟨some 117, (.call ⟨(.value (.func 67)), #[(.tmp 109), (.tmp 116)], #[89, 89]⟩), 4, none⟩,
      ⟨some 118, (.unOp .not 4 (.tmp 117)), 4, none⟩] [(0, 1), (0, 2), (1, 2), (0, 3), (0, 4), (0, 7), (1, 7), (2, 7), (3, 7), (4, 7), (5, 7), (6, 7), (0, 8), (1, 8), (2, 8), (3, 8), (4, 8), (5, 8), (6, 8), (7, 8), (0, 9), (1, 9), (2, 9), (3, 9), (4, 9), (5, 9), (6, 9), (7, 9), (8, 9), (0, 10), (1, 10), (2, 10), (3, 10), (4, 10), (5, 10), (6, 10), (7, 10), (0, 11), (1, 11), (2, 11), (3, 11), (4, 11), (5, 11), (6, 11), (7, 11), (0, 12), (1, 12), (2, 12), (3, 12), (4, 12), (5, 12), (6, 12), (0, 13), (1, 13), (2, 13), (3, 13), (4, 13), (5, 13), (6, 13)])
    (.cond (.tmp 118)
    (.seq (.reg [] [⟨some 4, (.assign (.const (.bool false))), 4, none⟩,
      ⟨some 5, (.assign (.const (.int .i64 0))), 28, none⟩])
    .ret)
    .skip))))
    (.reg [] [⟨some 119, (.binOp .add 3 (.tmp 100) (.const (.int .i64 1)) 3), 3, none⟩,
      ⟨some 100, (.move (.tmp 119)), 3, none⟩])))))))))
    (.reg [] [⟨some 120, (.binOp .add 3 (.tmp 96) (.const (.int .i64 1)) 3), 3, none⟩,
      ⟨some 96, (.move (.tmp 120)), 3, none⟩])))))))))
    (.reg [] [⟨some 121, (.binOp .add 3 (.tmp 90) (.const (.int .i64 1)) 3), 3, none⟩,
      ⟨some 90, (.move (.tmp 121)), 3, none⟩])))))))
    (.seq (.reg [] [⟨some 4, (.assign (.const (.bool true))), 4, none⟩,
      ⟨some 5, (.assign (.const (.int .i64 0))), 28, none⟩])
    .ret)))))))))
theorem C28 {args : List AV} {r : AV} (hn : args.length ≤ 122) (h : vc Tryz.prog T [] A28 (Fin T [(.tmp 4), (.tmp 5)] r) ⟨envOf 0 args, []⟩) : CallP Tryz.prog 28 args r :=
  callP_of tok mixed Tryz.func28 (by kernel_rfl) (by kernel_rfl) (by kernel_rfl : Tryz.f28.ntmps = 122) (by kernel_rfl : Tryz.f28.body.bind (strip 122 (fun _ => [])) = some A28) hn h
def A30 : ACode :=
  (.seq (.reg [] [⟨some 4, (.assign (.const (.slice none 0 0))), 23, none⟩,
      ⟨some 5, (.assign (.const (.bool false))), 4, none⟩,
      ⟨some 6, (.assign (.const (.int .i64 0))), 28, none⟩])
    (.seq (.reg [] [⟨some 13, (.move (.tmp 0)), 22, none⟩,
      ⟨some 14, (.move (.tmp 1)), 23, none⟩,
      ⟨some 15, (.call ⟨(.value (.func 35)), #[(.tmp 13), (.tmp 14)], #[22, 23]⟩), 49, none⟩,
      ⟨some 12, (.move (.tmp 15)), 49, none⟩,
      ⟨some 16, (.extract (.tmp 12) 0), 48, none⟩,
      ⟨some 17, (.extract (.tmp 12) 1), 28, none⟩,
      ⟨some 7, (.assign (.tmp 16)), 48, none⟩,
      ⟨some 8, (.assign (.tmp 17)), 28, none⟩])
    (.seq (.seq (.reg [] [⟨some 18, (.move (.tmp 8)), 28, none⟩,
      ⟨some 19, (.binOp .neq 28 (.tmp 18) (.const (.int .i64 0)) 28), 4, none⟩])
    (.cond (.tmp 19)
    (.seq (.reg [] [⟨some 20, (.move (.tmp 8)), 28, none⟩,
      ⟨some 4, (.assign (.const (.slice none 0 0))), 23, none⟩,
      ⟨some 5, (.assign (.const (.bool false))), 4, none⟩,
      ⟨some 6, (.assign (.tmp 20)), 28, none⟩])
    .ret)
    .skip))
    (.seq (.reg [] [⟨some 21, (.move (.tmp 7)), 48, none⟩,
      ⟨some 22, (.call ⟨(.value (.func 36)), #[(.tmp 21)], #[48]⟩), 27, none⟩,
      ⟨some 9, (.assign (.tmp 22)), 27, none⟩])
    (.seq (.seq (.reg [] [⟨some 24, (.move (.tmp 7)), 48, none⟩,
      ⟨some 25, (.call ⟨(.value (.func 41)), #[(.tmp 24)], #[48]⟩), 63, none⟩,
      ⟨some 23, (.move (.tmp 25)), 63, none⟩,
      ⟨some 26, (.extract (.tmp 23) 0), 3, none⟩,
      ⟨some 27, (.extract (.tmp 23) 1), 4, none⟩,
      ⟨some 10, (.assign (.tmp 26)), 3, none⟩,
      ⟨some 11, (.assign (.tmp 27)), 4, none⟩])
    (.seq (.reg [] [⟨some 28, (.move (.tmp 11)), 4, none⟩,
      ⟨some 29, (.unOp .not 4 (.tmp 28)), 4, none⟩,
      ⟨some 30, (.move (.tmp 29)), 4, none⟩,
      ⟨some 31, (.move (.tmp 9)), 27, some (30, false)⟩,
      ⟨some 32, (.call ⟨(.builtin .len), #[(.tmp 31)], #[27]⟩), 3, some (30, false)⟩,
      ⟨some 33, (.binOp .neq 3 (.tmp 32) (.const (.int .i64 1)) 3), 4, some (30, false)⟩,
      ⟨some 34, (.pick (.tmp 30) (.const (.bool true)) (.tmp 33)), 4, none⟩])
    (.cond (.tmp 34)
    (.seq (.reg [] [⟨some 4, (.assign (.const (.slice none 0 0))), 23, none⟩,
      ⟨some 5, (.assign (.const (.bool false))), 4, none⟩,
      ⟨some 6, (.assign (.const (.int .i64 0))), 28, none⟩])
    .ret)
    .skip)))
    (.seq (.reg [] [⟨some 35, (.move (.tmp 9)), 27, none⟩,
      ⟨some 36, (.indexAddr 27 (.tmp 35) (.const (.int .i64 0))), 0, none⟩,
      ⟨some 37, (.load 23 (.tmp 36)), 23, none⟩,
      ⟨some 4, (.assign (.tmp 37)), 23, none⟩,
      ⟨some 5, (.assign (.const (.bool true))), 4, none⟩,
      ⟨some 6, (.assign (.const (.int .i64 0))), 28, none⟩])
    .ret))))))
theorem C30 {args : List AV} {r : AV} (hn : args.length ≤ 38) (h : vc Tryz.prog T [] A30 (Fin T [(.tmp 4), (.tmp 5), (.tmp 6)] r) ⟨envOf 0 args, []⟩) : CallP Tryz.prog 30 args r :=
  callP_of tok mixed Tryz.func30 (by kernel_rfl) (by kernel_rfl) (by kernel_rfl : Tryz.f30.ntmps = 38) (by kernel_rfl : Tryz.f30.body.bind (strip 38 (fun _ => [])) = some A30) hn h

end Go.Proofs.YtkhddecnllcaiaaGreat
end

section
/- Contracts: the statement FeedSteps. -/
namespace Go.Proofs.YtkhddecnllcaiaaGreat
open Go.Abs Go
attribute [local simp] avsEq avEq akind teq vkind vEq

end Go.Proofs.YtkhddecnllcaiaaGreat
end

section
/- Contracts: the statement FeedSteps as a contract. -/
namespace Go.Proofs.YtkhddecnllcaiaaGreat
open Go.Abs Go
set_option maxRecDepth 20000
set_option maxHeartbeats 2000000
attribute [local irreducible] PreK CondK CallK CallG CallX LoopK
attribute [local simp] avsEq avEq akind teq vkind vEq

theorem large2_c (l : List Int) : CallP Tryz.prog 71 [ints l] (bv (decide (100 < l.length))) := by
  refine C71 (by simp) ?_
  simp [A71]
  omega
theorem large3_c (l : List Int) : CallP Tryz.prog 8 [ints l] (bv (decide (100 < l.length))) := by
  refine C8 (by simp) ?_
  simp [A8]
  omega
def longT (r : Rule) : Bool := decide (100 < r.to.length) || (decide (100 < r.left.length) || decide (100 < r.right.length))
theorem long2_c (r : Rule) : CallP Tryz.prog 33 [ruleV r] (bv (longT r)) := by
  refine C33 (by simp) ?_
  simp [A33]
  try simp 
  repeat' (first
    | (refine CallX.pure (large2_c r.to) (by simp) (by simp) ?_; try simp )
    | (refine CallK.intro (large2_c r.to) (by simp) (by simp) ?_; try simp )
    | (refine CallG.intro (fun _ => large2_c r.to) (by simp) (by simp) ?_; try simp )
    | (refine CallX.pure (large2_c r.left) (by simp) (by simp) ?_; try simp )
    | (refine CallK.intro (large2_c r.left) (by simp) (by simp) ?_; try simp )
    | (refine CallG.intro (fun _ => large2_c r.left) (by simp) (by simp) ?_; try simp )
    | (refine CallX.pure (large2_c r.right) (by simp) (by simp) ?_; try simp )
    | (refine CallK.intro (large2_c r.right) (by simp) (by simp) ?_; try simp )
    | (refine CallG.intro (fun _ => large2_c r.right) (by simp) (by simp) ?_; try simp )
    | ((with_reducible refine PreK.intro ?_ ?_); (next => (first | omega | (intros; first | omega | (refine ⟨by omega, ?_⟩; repeat (first | assumption | constructor)) | assumption))); intro _; try simp )
    | fail)
  simp [longT, Bool.or_assoc]
def longS (s : List Rule) : Bool := decide (50 < s.length) || s.any longT
theorem long3_c (s : List Rule) (h : s.length ≤ big) : CallP Tryz.prog 7 [rulesV s] (bv (longS s)) := by
  refine C7 (by simp) ?_
  generalize hR : longS s = R
  unfold longS at hR
  simp only [big] at h
  simp [A7]
  refine CondK.intro (fun h1 => ?_) (fun h1 => ?_)
  · simp at h1
    simp [show 50 < s.length by omega] at hR
    simp [← hR]
  · simp at h1
    simp only [show ¬ 50 < s.length by omega, decide_false, Bool.false_or] at hR
    try simp 
    refine LoopK.by (fun i : Nat => ⟨[(3, iv i), (0, rulesV s)], []⟩) (fun i => s.length - i) (fun i => i ≤ s.length ∧ (s.drop i).any longT = R) 0 (by simpa using hR) (by simp) ?_
    intro i Q' ⟨hi, hc⟩ hq he hr
    try simp 
    refine CondK.intro (fun h2 => ?_) (fun h2 => ?_)
    · simp at h2
      rw [drop_cons s i h2, List.any_cons] at hc
      try simp [h2]
      repeat' (first
        | (refine CallX.pure (long2_c (el s i)) (by simp) (by simp) ?_; try simp [h2])
        | (refine CallK.intro (long2_c (el s i)) (by simp) (by simp) ?_; try simp [h2])
        | (refine CallG.intro (fun _ => long2_c (el s i)) (by simp) (by simp) ?_; try simp [h2])
        | ((with_reducible refine PreK.intro ?_ ?_); (next => (first | omega | (intros; first | omega | (refine ⟨by omega, ?_⟩; repeat (first | assumption | constructor)) | assumption))); intro _; try simp [h2])
        | fail)
      refine CondK.intro (fun h3 => ?_) (fun h3 => ?_)
      · rw [h3] at hc
        try simp 
        apply hr
        simp [← hc]
      · rw [h3] at hc
        try simp 
        repeat' (first
          | ((with_reducible refine PreK.intro ?_ ?_); (next => (first | omega | (intros; first | omega | (refine ⟨by omega, ?_⟩; repeat (first | assumption | constructor)) | assumption))); intro _; try simp )
          | fail)
        exact hq (i + 1) _ ⟨by omega, by simpa using hc⟩ (by omega) (by simp)
    · simp at h2
      rw [List.drop_eq_nil_of_le (by omega)] at hc
      try simp 
      apply he
      simp [← hc]
theorem longS_small {s : List Rule} (h : longS s = false) : Sys.small s := by
  unfold longS at h
  simp only [Bool.or_eq_false_iff, decide_eq_false_iff_not, List.any_eq_false] at h
  refine ⟨by omega, fun r hr => ?_⟩
  have := h.2 r hr
  unfold longT at this
  simp only [Bool.or_eq_true, decide_eq_true_eq, not_or] at this
  exact ⟨by omega, by omega, by omega⟩
end Go.Proofs.YtkhddecnllcaiaaGreat
end

section
/- Contracts: words put in their places; the reference's next words; parts of lists; the statement FeedNexts. -/
namespace Go.Proofs.YtkhddecnllcaiaaGreat
open Go.Abs Go
set_option maxRecDepth 20000
set_option maxHeartbeats 2000000
attribute [local irreducible] PreK CondK CallK CallG CallX LoopK
attribute [local simp] avsEq avEq akind teq vkind vEq

theorem before1_c (a b : List Int) (ha : a.length ≤ 1000) : CallP Tryz.prog 105 [ints a, ints b] (bv (bef a b)) := by
  refine C105 (by simp) ?_
  generalize hR : bef a b = R
  simp [A105]
  refine LoopK.by (fun i : Nat => ⟨[(5, iv i), (0, ints a), (1, ints b)], []⟩) (fun i => a.length - i) (fun i => i ≤ a.length ∧ i ≤ b.length ∧ bef (a.drop i) (b.drop i) = R) 0 (by simpa using hR) (by simp) ?_
  intro i Q' ⟨hi, hj, hc⟩ hq he hr
  by_cases h1 : i < a.length
  · by_cases h2 : i < b.length
    · rw [drop_cons a i h1, drop_cons b i h2, bef] at hc
      try simp [h1, h2]
      repeat' (first
        | ((with_reducible refine PreK.intro ?_ ?_); (next => (first | omega | (intros; first | omega | (refine ⟨by omega, ?_⟩; repeat (first | assumption | constructor)) | assumption))); intro _; try simp [h1, h2])
        | fail)
      refine CondK.intro (fun h3 => ?_) (fun h3 => ?_)
      · try simp [h1, h2]
        repeat' (first
          | ((with_reducible refine PreK.intro ?_ ?_); (next => (first | omega | (intros; first | omega | (refine ⟨by omega, ?_⟩; repeat (first | assumption | constructor)) | assumption))); intro _; try simp [h1, h2])
          | fail)
        refine CondK.intro (fun h4 => ?_) (fun h4 => ?_)
        · simp at h4
          rw [if_neg h4] at hc
          try simp [h1, h2]
          repeat' (first
            | ((with_reducible refine PreK.intro ?_ ?_); (next => (first | omega | (intros; first | omega | (refine ⟨by omega, ?_⟩; repeat (first | assumption | constructor)) | assumption))); intro _; try simp [h1, h2])
            | fail)
          apply hr
          simp [← hc]
        · simp at h4
          rw [if_pos h4] at hc
          try simp 
          repeat' (first
            | ((with_reducible refine PreK.intro ?_ ?_); (next => (first | omega | (intros; first | omega | (refine ⟨by omega, ?_⟩; repeat (first | assumption | constructor)) | assumption))); intro _; try simp )
            | fail)
          exact hq (i + 1) _ ⟨by omega, by omega, hc⟩ (by omega) (by simp)
      · simp at h3
    · have hb : b.drop i = [] := List.drop_eq_nil_of_le (by omega)
      rw [hb] at hc
      have hf : bef (a.drop i) [] = false := by cases a.drop i <;> rfl
      rw [hf] at hc
      try simp [h1, h2]
      repeat' (first
        | ((with_reducible refine PreK.intro ?_ ?_); (next => (first | omega | (intros; first | omega | (refine ⟨by omega, ?_⟩; repeat (first | assumption | constructor)) | assumption))); intro _; try simp [h1, h2])
        | fail)
      refine CondK.intro (fun h3 => ?_) (fun h3 => ?_)
      · simp at h3
      · try simp 
        repeat' (first
          | ((with_reducible refine PreK.intro ?_ ?_); (next => (first | omega | (intros; first | omega | (refine ⟨by omega, ?_⟩; repeat (first | assumption | constructor)) | assumption))); intro _; try simp )
          | fail)
        apply he
        simp [← hc]; omega
  · have h0 : i = a.length := by omega
    subst h0
    rw [List.drop_eq_nil_of_le (Nat.le_refl _)] at hc
    try simp 
    repeat' (first
      | ((with_reducible refine PreK.intro ?_ ?_); (next => (first | omega | (intros; first | omega | (refine ⟨by omega, ?_⟩; repeat (first | assumption | constructor)) | assumption))); intro _; try simp )
      | fail)
    refine CondK.intro (fun h3 => ?_) (fun h3 => ?_)
    · simp at h3
    · try simp 
      repeat' (first
        | ((with_reducible refine PreK.intro ?_ ?_); (next => (first | omega | (intros; first | omega | (refine ⟨by omega, ?_⟩; repeat (first | assumption | constructor)) | assumption))); intro _; try simp )
        | fail)
      apply he
      by_cases h2 : a.length < b.length
      · rw [drop_cons b _ h2, bef] at hc
        simp [← hc, h2]
      · rw [List.drop_eq_nil_of_le (by omega), bef] at hc
        simp [← hc, h2]
theorem insert_c (l : List Word) (w : Word) (hl : l.length ≤ 1000) (hs : ∀ x ∈ l, x.length ≤ 1000) (hw : w.length ≤ 1000) : CallP Tryz.prog 79 [wordsV l, ints w] (wordsV (insM w l)) := by
  refine C79 (by simp) ?_
  generalize hR : insM w l = R
  simp [A79]
  refine LoopK.by (fun i : Nat => ⟨[(5, iv i), (0, wordsV l), (1, ints w)], []⟩) (fun i => l.length - i) (fun i => i ≤ l.length ∧ l.take i ++ insM w (l.drop i) = R) 0 (by simpa using hR) (by simp) ?_
  intro i Q' ⟨hi, hc⟩ hq he hr
  by_cases h1 : i < l.length
  · have hm := el_mem_of l i h1
    rw [drop_cons l i h1, insM] at hc
    try simp [h1]
    repeat' (first
      | ((with_reducible refine PreK.intro ?_ ?_); (next => (first | omega | (intros; first | omega | (refine ⟨by omega, ?_⟩; repeat (first | assumption | constructor)) | assumption))); intro _; try simp [h1])
      | fail)
    refine CallG.intro (r := bv (bef (el l i) w)) (fun _ => by simpa using before1_c (el l i) w (hs _ hm)) (by simp) (by simp) ?_
    try simp 
    cases hb : bef (el l i) w
    · rw [hb] at hc
      simp only [Bool.false_eq_true, if_false] at hc
      refine CondK.intro (fun h2 => ?_) (fun h2 => ?_)
      · simp at h2
      · try simp 
        repeat' (first
          | ((with_reducible refine PreK.intro ?_ ?_); (next => (first | omega | (intros; first | omega | (refine ⟨by omega, ?_⟩; repeat (first | assumption | constructor)) | assumption))); intro _; try simp )
          | fail)
        apply he
        try simp [h1]
        repeat' (first
          | ((with_reducible refine PreK.intro ?_ ?_); (next => (first | omega | (intros; first | omega | (refine ⟨by omega, ?_⟩; repeat (first | assumption | constructor)) | assumption))); intro _; try simp [h1])
          | fail)
        refine CallG.intro (r := bv (decide (el l i = w))) (fun _ => by simpa using same1_c (el l i) w (big_of (hs _ hm))) (by simp) (by simp) ?_
        try simp 
        refine CondK.intro (fun h3 => ?_) (fun h3 => ?_)
        · simp at h3
          rw [if_pos h3, ← drop_cons l i h1, List.take_append_drop] at hc
          try simp 
          repeat' (first
            | ((with_reducible refine PreK.intro ?_ ?_); (next => (first | omega | (intros; first | omega | (refine ⟨by omega, ?_⟩; repeat (first | assumption | constructor)) | assumption))); intro _; try simp )
            | fail)
          simp [← hc]
        · simp at h3
          rw [if_neg h3, ← drop_cons l i h1] at hc
          have hm2 : min i l.length = i := by omega
          have t1 : List.take (i + 1) (List.take i (l.map ints) ++ [ints w]) = List.take i (l.map ints) ++ [ints w] := List.take_of_length_le (by simp; omega)
          have t2 : List.take (i + 1 + (l.length - i)) (List.take i (l.map ints) ++ ints w :: List.drop i (l.map ints)) = List.take i (l.map ints) ++ ints w :: List.drop i (l.map ints) := List.take_of_length_le (by simp; omega)
          have t0 : List.take i (List.take i (l.map ints)) = List.take i (l.map ints) := by rw [List.take_take, Nat.min_self]
          simp only [ints] at t0 t1 t2
          try simp [h1]
          repeat' (first
            | ((with_reducible refine PreK.intro ?_ ?_); (next => (first | omega | (intros; first | omega | (refine ⟨by omega, ?_⟩; repeat (first | assumption | constructor)) | assumption))); intro _; try simp [h1])
            | fail)
          simp [← hc, hm2, t0, t1, t2]
    · rw [hb] at hc
      simp only [if_true] at hc
      refine CondK.intro (fun h2 => ?_) (fun h2 => ?_)
      · try simp 
        repeat' (first
          | ((with_reducible refine PreK.intro ?_ ?_); (next => (first | omega | (intros; first | omega | (refine ⟨by omega, ?_⟩; repeat (first | assumption | constructor)) | assumption))); intro _; try simp )
          | fail)
        refine hq (i + 1) _ ⟨by omega, ?_⟩ (by omega) (by simp)
        rw [take_succ l i h1, List.append_assoc]
        exact hc
      · simp at h2
  · have h0 : i = l.length := by omega
    subst h0
    rw [List.drop_eq_nil_of_le (Nat.le_refl _)] at hc
    simp only [List.take_length, insM] at hc
    try simp 
    repeat' (first
      | ((with_reducible refine PreK.intro ?_ ?_); (next => (first | omega | (intros; first | omega | (refine ⟨by omega, ?_⟩; repeat (first | assumption | constructor)) | assumption))); intro _; try simp )
      | fail)
    refine CallG.intro (r := bv true) (fun hh => by cases hh) (by simp) (by simp) ?_
    try simp 
    refine CondK.intro (fun h3 => ?_) (fun h3 => ?_)
    · simp at h3
    · try simp 
      repeat' (first
        | ((with_reducible refine PreK.intro ?_ ?_); (next => (first | omega | (intros; first | omega | (refine ⟨by omega, ?_⟩; repeat (first | assumption | constructor)) | assumption))); intro _; try simp )
        | fail)
      apply he
      try simp 
      repeat' (first
        | ((with_reducible refine PreK.intro ?_ ?_); (next => (first | omega | (intros; first | omega | (refine ⟨by omega, ?_⟩; repeat (first | assumption | constructor)) | assumption))); intro _; try simp )
        | fail)
      refine CallG.intro (r := bv true) (fun hh => by cases hh) (by simp) (by simp) ?_
      try simp 
      refine CondK.intro (fun h4 => ?_) (fun h4 => ?_)
      · simp at h4
      · try simp 
        repeat' (first
          | ((with_reducible refine PreK.intro ?_ ?_); (next => (first | omega | (intros; first | omega | (refine ⟨by omega, ?_⟩; repeat (first | assumption | constructor)) | assumption))); intro _; try simp )
          | fail)
        simp [← hc, take_map_one]
theorem insM_words (w : Word) (n : Nat) (hw : w.length ≤ n) {l : List Word} (hs : ∀ x ∈ l, x.length ≤ n) : ∀ x ∈ insM w l, x.length ≤ n := by
  intro x hx
  rcases mem_insM.1 hx with rfl | hx
  · exact hw
  · exact hs x hx
def nxtR (s : List Rule) (w : Word) : List Word := insA [] ((movesM s w).map (·.word))
theorem rnext_c (s : List Rule) (w : List Int) (h : Sys.small s) (hs : sysErr s = 0) (hw : wordErr w = 0) : CallP Tryz.prog 103 [rulesV s, ints w] (wordsV (nxtR s w)) := by
  refine C103 (by simp) ?_
  have hst := rsteps_c s w h (sysErr_zero hs).1 (wordErr_zero hw).1
  have hmr := fun m hm => @moves_right s w hs hw m hm
  have hml := movesM_len hs hw
  unfold nxtR
  generalize hS : (movesM s w).map (·.step) = S at hst
  have hws : ∀ x ∈ (movesM s w).map (·.word), x.length ≤ 8 := by
    intro x hx
    obtain ⟨m, hm, rfl⟩ := List.mem_map.1 hx
    exact (wordErr_zero (hmr m hm)).1
  have hwl : ((movesM s w).map (·.word)).length ≤ 54 := by simpa using hml
  generalize (movesM s w).map (·.word) = ws at hst hws hwl
  generalize hR : insA [] ws = R
  simp [A103]
  try simp 
  repeat' (first
    | (refine CallX.pure (hst) (by simp) (by simp) ?_; try simp )
    | (refine CallK.intro (hst) (by simp) (by simp) ?_; try simp )
    | (refine CallG.intro (fun _ => hst) (by simp) (by simp) ?_; try simp )
    | ((with_reducible refine PreK.intro ?_ ?_); (next => (first | omega | (intros; first | omega | (refine ⟨by omega, ?_⟩; repeat (first | assumption | constructor)) | assumption))); intro _; try simp )
    | fail)
  refine LoopK.frz 7 (b := ⟨1, [], 1, false⟩) (by simp) (by simp) ?_
  refine LoopK.by (ι := Nat × List Word) (fun x => ⟨[(8, iv x.1), (6, wordsV ws), (7, wordsV x.2)], []⟩) (fun x => ws.length - x.1) (fun x => x.1 ≤ ws.length ∧ x.2.length ≤ x.1 ∧ (∀ y ∈ x.2, y.length ≤ 8) ∧ insA x.2 (ws.drop x.1) = R) (0, []) (by simpa using hR) (by simp) ?_
  intro ⟨i, acc⟩ Q' ⟨hi, ha, hy, hc⟩ hq he hr
  dsimp only at hi ha hy hc
  try simp 
  refine CondK.intro (fun h1 => ?_) (fun h1 => ?_)
  · simp at h1
    have h8 := hws _ (el_mem_of ws i h1)
    rw [drop_cons ws i h1, insA] at hc
    try simp [h1]
    repeat' (first
      | (refine CallX.pure (insert_c acc (el ws i) (by omega) (fun x hx => Nat.le_trans (hy x hx) (by omega)) (by omega)) (by simp) (by simp) ?_; try simp [h1])
      | (refine CallK.intro (insert_c acc (el ws i) (by omega) (fun x hx => Nat.le_trans (hy x hx) (by omega)) (by omega)) (by simp) (by simp) ?_; try simp [h1])
      | (refine CallG.intro (fun _ => insert_c acc (el ws i) (by omega) (fun x hx => Nat.le_trans (hy x hx) (by omega)) (by omega)) (by simp) (by simp) ?_; try simp [h1])
      | ((with_reducible refine PreK.intro ?_ ?_); (next => (first | omega | (intros; first | omega | (refine ⟨by omega, ?_⟩; repeat (first | assumption | constructor)) | assumption))); intro _; try simp [h1])
      | fail)
    refine hq (i + 1, insM (el ws i) acc) _ ⟨by dsimp only; omega, ?_, insM_words _ 8 h8 hy, hc⟩ (by dsimp only; omega) (by simp)
    have := insM_len (el ws i) acc
    dsimp only; omega
  · simp at h1
    rw [List.drop_eq_nil_of_le (by omega), insA] at hc
    try simp 
    apply he
    try simp 
    repeat' (first
      | ((with_reducible refine PreK.intro ?_ ?_); (next => (first | omega | (intros; first | omega | (refine ⟨by omega, ?_⟩; repeat (first | assumption | constructor)) | assumption))); intro _; try simp )
      | fail)
    simp [← hc]
end Go.Proofs.YtkhddecnllcaiaaGreat
end

section
/- PURSE -/
/- Contracts: the reference's search. (written by gen/mkrb.py) -/
namespace Go.Proofs.YtkhddecnllcaiaaGreat
open Go.Abs Go
set_option maxRecDepth 20000
set_option maxHeartbeats 8000000
attribute [local irreducible] PreK CondK CallK CallG CallX LoopK
attribute [local simp] avsEq avEq akind teq vkind vEq

theorem CX78 {args : List AV} {r : AV} (hn : args.length ≤ 82) (h : vc Tryz.prog T [13, 14] A78 (Fin T [(.cell 4 53), (.tmp 5)] r) ⟨envOf 0 args, []⟩) : CallP Tryz.prog 78 args r :=
  callP_of tok mixed Tryz.func78 (by kernel_rfl) (by kernel_rfl) (by kernel_rfl : Tryz.f78.ntmps = 82) (by kernel_rfl : Tryz.f78.body.bind (strip 82 (fun _ => [])) = some A78) hn h
theorem find_c (l : List Word) (w : Word) (hl : l.length ≤ 1000) (hs : ∀ x ∈ l, x.length ≤ 1000) : CallP Tryz.prog 104 [wordsV l, ints w] (iv (findI l w)) := by
  refine C104 (by simp) ?_
  generalize hR : findI l w = R
  unfold findI at hR
  simp [A104]
  refine LoopK.by (fun i : Nat => ⟨[(5, iv i), (0, wordsV l), (1, ints w)], []⟩) (fun i => l.length - i) (fun i => i ≤ l.length ∧ idxG (fun x => decide (x = w)) i (l.drop i) = R) 0 (by simpa using hR) (by simp) ?_
  intro i Q' ⟨hi, hc⟩ hq he hr
  try simp 
  refine CondK.intro (fun h1 => ?_) (fun h1 => ?_)
  · simp at h1
    rw [drop_cons l i h1, idxG] at hc
    try simp [h1]
    repeat' (first
      | (refine CallX.pure (same1_c (el l i) w (big_of (hs _ (el_mem_of l i h1)))) (by simp) (by simp) ?_; try simp [h1])
      | (refine CallK.intro (same1_c (el l i) w (big_of (hs _ (el_mem_of l i h1)))) (by simp) (by simp) ?_; try simp [h1])
      | (refine CallG.intro (fun _ => same1_c (el l i) w (big_of (hs _ (el_mem_of l i h1)))) (by simp) (by simp) ?_; try simp [h1])
      | ((with_reducible refine PreK.intro ?_ ?_); (next => (first | omega | (intros; first | omega | (refine ⟨by omega, ?_⟩; repeat (first | assumption | constructor)) | assumption))); intro _; try simp [h1])
      | fail)
    refine CondK.intro (fun h2 => ?_) (fun h2 => ?_)
    · simp at h2
      rw [if_pos (by simpa using h2)] at hc
      try simp 
      apply hr
      simp [← hc]
    · simp at h2
      rw [if_neg (by simpa using h2)] at hc
      try simp 
      repeat' (first
        | ((with_reducible refine PreK.intro ?_ ?_); (next => (first | omega | (intros; first | omega | (refine ⟨by omega, ?_⟩; repeat (first | assumption | constructor)) | assumption))); intro _; try simp )
        | fail)
      exact hq (i + 1) _ ⟨by omega, hc⟩ (by omega) (by simp)
  · simp at h1
    rw [List.drop_eq_nil_of_le (by omega), idxG] at hc
    try simp 
    apply he
    simp [← hc]
def rzeroV : AV := .agg [.seq 1 [] false, .seq 1 [] false, .seq 1 [] false]
def rgraphV (g : RG) : AV := .agg [wordsV g.ws, .seq 1 (g.nx.map ints) false, ints g.far]
def rreachV : Option RG → AV
  | none => .tup [rzeroV, bv false]
  | some g => .tup [rgraphV g, bv true]
structure RG.ok (g : RG) : Prop where
  fine : ∀ x ∈ g.ws, wordErr x = 0
  num : g.ws.length ≤ 300
  far : g.far.length = g.ws.length
  low : ∀ j, j < g.far.length → 0 ≤ el g.far j ∧ el g.far j ≤ j
theorem RG.ok.push {g : RG} (h : g.ok) {w : Word} {i : Nat} (hw : wordErr w = 0) (hn : g.ws.length < 300) (hi : i < g.ws.length) : RG.ok ⟨g.ws ++ [w], g.nx, g.far ++ [el g.far i + 1]⟩ := by
  have hf := h.far
  refine ⟨fun x hx => ?_, by simp; omega, by simp [hf], fun j hj => ?_⟩
  · rcases List.mem_append.1 hx with hx | hx
    · exact h.fine x hx
    · simp only [List.mem_singleton] at hx
      subst hx; exact hw
  · simp only [List.length_append, List.length_cons, List.length_nil] at hj
    dsimp only
    by_cases hj2 : j < g.far.length
    · rw [el_app_left _ _ hj2]; exact h.low j hj2
    · have : j = g.far.length := by omega
      subst this
      rw [el_app_mid]
      have := h.low i (by omega)
      omega
def rboxT (g : RG) : List (Nat × Option Box) := [(4, some ⟨3, [.agg [.seq 1 [] true, .seq 1 [] true, .seq 1 [] true]], 1, true⟩), (6, some ⟨3, [.agg [.sl 13 g.ws.length 0 g.ws.length, .seq 1 [] true, .sl 14 g.ws.length 0 g.far.length]], 1, true⟩), (13, some ⟨1, g.ws.map ints, g.ws.length, false⟩), (14, some ⟨1, g.far.map iv, g.ws.length, false⟩)]
def rboxF (g : RG) : List (Nat × Option Box) := [(4, some ⟨3, [.agg [.seq 1 [] true, .seq 1 [] true, .seq 1 [] true]], 1, true⟩), (6, some ⟨3, [.agg [.sl 13 g.ws.length 0 g.ws.length, .sl 79 g.nx.length 0 g.nx.length, .sl 14 g.ws.length 0 g.far.length]], 1, true⟩), (13, some ⟨1, g.ws.map ints, g.ws.length, false⟩), (14, some ⟨1, g.far.map iv, g.ws.length, false⟩), (79, some ⟨1, g.nx.map ints, g.nx.length, false⟩)]
attribute [local simp] rboxT rboxF
theorem reached_x (s : List Rule) (w : List Int) (h : Sys.small s) (hs : sysErr s = 0) (hw : wordErr w = 0) : CallP Tryz.prog 78 [rulesV s, ints w] (rreachV (rreachG s w)) := by
  refine CX78 (by simp) ?_
  generalize hR : rreachG s w = R
  unfold rreachG at hR
  have hok0 : RG.ok ⟨[w], [], [0]⟩ := ⟨by simpa using hw, by simp, rfl, fun j hj => by simp at hj; subst hj; simp [el]⟩
  generalize hg0 : (⟨[w], [], [0]⟩ : RG) = g0 at hR hok0
  have hg1 : g0.nx = [] := by rw [← hg0]
  have hg2 : g0.ws = [w] := by rw [← hg0]
  have hg3 : g0.far = [0] := by rw [← hg0]
  simp [A78]
  refine LoopK.by (ι := Bool × Nat × RG) (fun x => match x with
      | (true, i, g) => ⟨[(7, iv i), (6, .pt 6 1 0 0), (4, .pt 4 1 0 0), (0, rulesV s)], rboxT g⟩
      | (false, i, g) => ⟨[(7, iv i), (6, .pt 6 1 0 0), (4, .pt 4 1 0 0), (0, rulesV s)], rboxF g⟩)
    (fun x => 400 - x.2.1) (fun x => (x.1 = true → x.2.2.nx = []) ∧ x.2.2.ok ∧ x.2.1 ≤ x.2.2.ws.length ∧ x.2.2.nx.length = x.2.1 ∧ rcloseG s (301 - x.2.1) x.2.1 x.2.2 = R) (true, 0, g0) ⟨fun _ => hg1, hok0, by simp, by rw [hg1]; rfl, hR⟩ (by simp [hg2, hg3]) ?_
  intro ⟨kd, i, g⟩ Q' ⟨hkd, hok, hi, hnl, hc⟩ hq he hr
  dsimp only at hkd hok hi hnl hc
  have hnum := hok.num
  have hfl := hok.far
  obtain ⟨n, hn⟩ : ∃ n, 301 - i = n + 1 := ⟨300 - i, by omega⟩
  rw [hn, rcloseG] at hc
  by_cases hi2 : i < g.ws.length
  · rw [if_pos hi2] at hc
    have hui := hok.fine _ (el_mem_of g.ws i hi2)
    have hmc := rnext_c s (el g.ws i) h hs hui
    have hms : ∀ x ∈ nxtR s (el g.ws i), wordErr x = 0 := by
      intro x hx
      unfold nxtR at hx
      rw [(insA_spec _ [] List.Pairwise.nil).2] at hx
      simp only [List.not_mem_nil, false_or] at hx
      obtain ⟨m, hm, rfl⟩ := List.mem_map.1 hx
      exact moves_right hs hui hm
    have hml : (nxtR s (el g.ws i)).length ≤ 54 := by
      have h1 := insA_len ((movesM s (el g.ws i)).map (·.word)) []
      have h2 := movesM_len hs hui
      simp at h1
      unfold nxtR; omega
    have hnr : nxR s (el g.ws i) = nxtR s (el g.ws i) := rfl
    rw [hnr] at hc
    generalize nxtR s (el g.ws i) = ms at hmc hms hml hc
    generalize hRA : raddG (el g.far i + 1) g.ws g.far [] ms = RA at hc
    cases kd
    · try simp 
      refine CondK.intro (fun h1 => ?_) (fun h1 => ?_)
      · try simp 
        try simp [hi2]
        repeat' (first
          | (refine CallX.pure (hmc) (by simp) (by simp) ?_; try simp [hi2])
          | (refine CallK.intro (hmc) (by simp) (by simp) ?_; try simp [hi2])
          | (refine CallG.intro (fun _ => hmc) (by simp) (by simp) ?_; try simp [hi2])
          | ((with_reducible refine PreK.intro ?_ ?_); (next => (first | omega | (intros; first | omega | (refine ⟨by omega, ?_⟩; repeat (first | assumption | constructor)) | assumption))); intro _; try simp [hi2])
          | fail)
        refine LoopK.by (ι := Nat × RG × List Int) (fun x => ⟨[(10, iv x.1), (9, wordsV ms), (8, .sl 8 (x.2.2.length + 1) 0 x.2.2.length), (7, iv i), (6, .pt 6 1 0 0), (4, .pt 4 1 0 0), (0, rulesV s)], (8, some ⟨1, x.2.2.map iv, x.2.2.length + 1, false⟩) :: rboxF x.2.1⟩)
          (fun x => ms.length - x.1) (fun x => x.1 ≤ ms.length ∧ x.2.2.length = x.1 ∧ x.2.1.ok ∧ x.2.1.nx = g.nx ∧ i < x.2.1.ws.length ∧ el x.2.1.far i = el g.far i ∧ raddG (el g.far i + 1) x.2.1.ws x.2.1.far x.2.2 (ms.drop x.1) = RA) (0, g, []) ⟨by simp, rfl, hok, rfl, hi2, rfl, hRA⟩ (by simp) ?_
        intro ⟨k, g', l⟩ Q'' ⟨hk, hkl, hok', hnx, hi3, hfi, ha⟩ hq' he' hr'
        dsimp only at hk hkl hok' hnx hi3 hfi ha
        have hnum' := hok'.num
        have hfl' := hok'.far
        have hfi3 : i < g'.far.length := by omega
        try simp 
        refine CondK.intro (fun h2 => ?_) (fun h2 => ?_)
        · simp at h2
          have h8 := hms _ (el_mem_of ms k h2)
          rw [drop_cons ms k h2, raddG] at ha
          have hfc := find_c g'.ws (el ms k) (by omega) (fun x hx => by have := (wordErr_zero (hok'.fine x hx)).1; omega)
          have hfa := idxG_lt (fun x => decide (x = el ms k)) g'.ws 0
          have hfr : findI g'.ws (el ms k) = idxG (fun x => decide (x = el ms k)) 0 g'.ws := rfl
          have hfb : findI g'.ws (el ms k) = -1 ∨ (0 ≤ findI g'.ws (el ms k) ∧ findI g'.ws (el ms k) < g'.ws.length) := by
            rcases hfa with e | ⟨j, j1, j2, _⟩
            · exact .inl (hfr.trans e)
            · right; rw [hfr, j2]; omega
          try simp [h2]
          repeat (refine PreK.intro (by first | omega | (intros; first | omega | (refine ⟨by omega, ?_⟩; simp_all; done) | (simp_all; done) | (simp_all; omega))) fun _ => ?_; (try simp [h2]))
          refine CallK.intro (by simpa using hfc) (by simp) (by simp) ?_
          try simp [h2]
          repeat (refine PreK.intro (by first | omega | (intros; first | omega | (refine ⟨by omega, ?_⟩; simp_all; done) | (simp_all; done) | (simp_all; omega))) fun _ => ?_; (try simp [h2]))
          refine CondK.intro (fun h3 => ?_) (fun h3 => ?_)
          · simp at h3
            rw [if_pos h3] at ha
            try simp 
            refine CondK.intro (fun h4 => ?_) (fun h4 => ?_)
            · simp at h4
              rw [if_pos (by omega)] at ha
              subst ha
              try simp 
              apply hr'
              apply hr
              simp [rreachV, rzeroV, ← hc]
            · simp at h4
              rw [if_neg (by omega)] at ha
              have hfi2 := hok'.low i (by omega)
              try simp [h2, hi3, hfi3]
              repeat (refine PreK.intro (by first | omega | (intros; first | omega | (refine ⟨by omega, ?_⟩; simp_all; done) | (simp_all; done) | (simp_all; omega))) fun _ => ?_; (try simp [h2, hi3, hfi3]))
              try simp [h2, hi3, hfi3]
              repeat (refine PreK.intro (by first | omega | (intros; first | omega | (refine ⟨by omega, ?_⟩; simp_all; done) | (simp_all; done) | (simp_all; omega))) fun _ => ?_; (try simp [h2, hi3, hfi3]))
              try simp [h2, hi3, hfi3]
              repeat (refine PreK.intro (by first | omega | (intros; first | omega | (refine ⟨by omega, ?_⟩; simp_all; done) | (simp_all; done) | (simp_all; omega))) fun _ => ?_; (try simp [h2, hi3, hfi3]))
              refine hq' (k + 1, ⟨g'.ws ++ [el ms k], g'.nx, g'.far ++ [el g'.far i + 1]⟩, l ++ [(g'.ws.length : Int)]) _ ⟨by dsimp only; omega, by simp [hkl], hok'.push h8 (by omega) (by omega), hnx, by simp; omega, ?_, ?_⟩ (by dsimp only; omega) (by simp)
              · dsimp only
                rw [el_app_left _ _ (by omega)]
                exact hfi
              · dsimp only
                rw [hfi]; exact ha
          · simp at h3
            rw [if_neg (by omega)] at ha
            try simp 
            repeat (refine PreK.intro (by first | omega | (intros; first | omega | (refine ⟨by omega, ?_⟩; simp_all; done) | (simp_all; done) | (simp_all; omega))) fun _ => ?_; (try simp ))
            try simp 
            repeat (refine PreK.intro (by first | omega | (intros; first | omega | (refine ⟨by omega, ?_⟩; simp_all; done) | (simp_all; done) | (simp_all; omega))) fun _ => ?_; (try simp ))
            refine hq' (k + 1, g', l ++ [findI g'.ws (el ms k)]) _ ⟨by dsimp only; omega, by simp [hkl], hok', hnx, hi3, hfi, ha⟩ (by dsimp only; omega) (by simp)
        · simp at h2
          rw [List.drop_eq_nil_of_le (by omega), raddG] at ha
          subst ha
          have hnn : g'.nx.length = i := by rw [hnx]; exact hnl
          try simp 
          apply he'
          try simp 
          repeat' (first
            | ((with_reducible refine PreK.intro ?_ ?_); (next => (first | omega | (intros; first | omega | (refine ⟨by omega, ?_⟩; repeat (first | assumption | constructor)) | assumption))); intro _; try simp )
            | fail)
          refine hq (false, i + 1, ⟨g'.ws, g'.nx ++ [l], g'.far⟩) _ ⟨fun e => (by cases e), ⟨hok'.fine, hok'.num, hok'.far, hok'.low⟩, hi3, by simp [hnn], by dsimp only; rw [show 301 - (i + 1) = n by omega, hnx]; exact hc⟩ (by dsimp only; omega) (by simp)
      · simp at h1
        omega
    · have hnx0 := hkd rfl
      try simp 
      refine CondK.intro (fun h1 => ?_) (fun h1 => ?_)
      · try simp 
        try simp [hi2]
        repeat' (first
          | (refine CallX.pure (hmc) (by simp) (by simp) ?_; try simp [hi2])
          | (refine CallK.intro (hmc) (by simp) (by simp) ?_; try simp [hi2])
          | (refine CallG.intro (fun _ => hmc) (by simp) (by simp) ?_; try simp [hi2])
          | ((with_reducible refine PreK.intro ?_ ?_); (next => (first | omega | (intros; first | omega | (refine ⟨by omega, ?_⟩; repeat (first | assumption | constructor)) | assumption))); intro _; try simp [hi2])
          | fail)
        refine LoopK.by (ι := Nat × RG × List Int) (fun x => ⟨[(10, iv x.1), (9, wordsV ms), (8, .sl 8 (x.2.2.length + 1) 0 x.2.2.length), (7, iv i), (6, .pt 6 1 0 0), (4, .pt 4 1 0 0), (0, rulesV s)], (8, some ⟨1, x.2.2.map iv, x.2.2.length + 1, false⟩) :: rboxT x.2.1⟩)
          (fun x => ms.length - x.1) (fun x => x.1 ≤ ms.length ∧ x.2.2.length = x.1 ∧ x.2.1.ok ∧ x.2.1.nx = g.nx ∧ i < x.2.1.ws.length ∧ el x.2.1.far i = el g.far i ∧ raddG (el g.far i + 1) x.2.1.ws x.2.1.far x.2.2 (ms.drop x.1) = RA) (0, g, []) ⟨by simp, rfl, hok, rfl, hi2, rfl, hRA⟩ (by simp) ?_
        intro ⟨k, g', l⟩ Q'' ⟨hk, hkl, hok', hnx, hi3, hfi, ha⟩ hq' he' hr'
        dsimp only at hk hkl hok' hnx hi3 hfi ha
        have hnum' := hok'.num
        have hfl' := hok'.far
        have hfi3 : i < g'.far.length := by omega
        try simp 
        refine CondK.intro (fun h2 => ?_) (fun h2 => ?_)
        · simp at h2
          have h8 := hms _ (el_mem_of ms k h2)
          rw [drop_cons ms k h2, raddG] at ha
          have hfc := find_c g'.ws (el ms k) (by omega) (fun x hx => by have := (wordErr_zero (hok'.fine x hx)).1; omega)
          have hfa := idxG_lt (fun x => decide (x = el ms k)) g'.ws 0
          have hfr : findI g'.ws (el ms k) = idxG (fun x => decide (x = el ms k)) 0 g'.ws := rfl
          have hfb : findI g'.ws (el ms k) = -1 ∨ (0 ≤ findI g'.ws (el ms k) ∧ findI g'.ws (el ms k) < g'.ws.length) := by
            rcases hfa with e | ⟨j, j1, j2, _⟩
            · exact .inl (hfr.trans e)
            · right; rw [hfr, j2]; omega
          try simp [h2]
          repeat (refine PreK.intro (by first | omega | (intros; first | omega | (refine ⟨by omega, ?_⟩; simp_all; done) | (simp_all; done) | (simp_all; omega))) fun _ => ?_; (try simp [h2]))
          refine CallK.intro (by simpa using hfc) (by simp) (by simp) ?_
          try simp [h2]
          repeat (refine PreK.intro (by first | omega | (intros; first | omega | (refine ⟨by omega, ?_⟩; simp_all; done) | (simp_all; done) | (simp_all; omega))) fun _ => ?_; (try simp [h2]))
          refine CondK.intro (fun h3 => ?_) (fun h3 => ?_)
          · simp at h3
            rw [if_pos h3] at ha
            try simp 
            refine CondK.intro (fun h4 => ?_) (fun h4 => ?_)
            · simp at h4
              rw [if_pos (by omega)] at ha
              subst ha
              try simp 
              apply hr'
              apply hr
              simp [rreachV, rzeroV, ← hc]
            · simp at h4
              rw [if_neg (by omega)] at ha
              have hfi2 := hok'.low i (by omega)
              try simp [h2, hi3, hfi3]
              repeat (refine PreK.intro (by first | omega | (intros; first | omega | (refine ⟨by omega, ?_⟩; simp_all; done) | (simp_all; done) | (simp_all; omega))) fun _ => ?_; (try simp [h2, hi3, hfi3]))
              try simp [h2, hi3, hfi3]
              repeat (refine PreK.intro (by first | omega | (intros; first | omega | (refine ⟨by omega, ?_⟩; simp_all; done) | (simp_all; done) | (simp_all; omega))) fun _ => ?_; (try simp [h2, hi3, hfi3]))
              try simp [h2, hi3, hfi3]
              repeat (refine PreK.intro (by first | omega | (intros; first | omega | (refine ⟨by omega, ?_⟩; simp_all; done) | (simp_all; done) | (simp_all; omega))) fun _ => ?_; (try simp [h2, hi3, hfi3]))
              refine hq' (k + 1, ⟨g'.ws ++ [el ms k], g'.nx, g'.far ++ [el g'.far i + 1]⟩, l ++ [(g'.ws.length : Int)]) _ ⟨by dsimp only; omega, by simp [hkl], hok'.push h8 (by omega) (by omega), hnx, by simp; omega, ?_, ?_⟩ (by dsimp only; omega) (by simp)
              · dsimp only
                rw [el_app_left _ _ (by omega)]
                exact hfi
              · dsimp only
                rw [hfi]; exact ha
          · simp at h3
            rw [if_neg (by omega)] at ha
            try simp 
            repeat (refine PreK.intro (by first | omega | (intros; first | omega | (refine ⟨by omega, ?_⟩; simp_all; done) | (simp_all; done) | (simp_all; omega))) fun _ => ?_; (try simp ))
            try simp 
            repeat (refine PreK.intro (by first | omega | (intros; first | omega | (refine ⟨by omega, ?_⟩; simp_all; done) | (simp_all; done) | (simp_all; omega))) fun _ => ?_; (try simp ))
            refine hq' (k + 1, g', l ++ [findI g'.ws (el ms k)]) _ ⟨by dsimp only; omega, by simp [hkl], hok', hnx, hi3, hfi, ha⟩ (by dsimp only; omega) (by simp)
        · simp at h2
          rw [List.drop_eq_nil_of_le (by omega), raddG] at ha
          subst ha
          have hnn : g'.nx = [] := by rw [hnx]; exact hnx0
          have hi0 : i = 0 := by rw [← hnl, hnx0]; rfl
          try simp 
          apply he'
          try simp 
          repeat' (first
            | ((with_reducible refine PreK.intro ?_ ?_); (next => (first | omega | (intros; first | omega | (refine ⟨by omega, ?_⟩; repeat (first | assumption | constructor)) | assumption))); intro _; try simp )
            | fail)
          refine hq (false, i + 1, ⟨g'.ws, g'.nx ++ [l], g'.far⟩) _ ⟨fun e => (by cases e), ⟨hok'.fine, hok'.num, hok'.far, hok'.low⟩, hi3, by simp [hnn, hi0], by dsimp only; rw [show 301 - (i + 1) = n by omega, hnx]; exact hc⟩ (by dsimp only; omega) (by simp [hnn])
      · simp at h1
        omega
  · rw [if_neg hi2] at hc
    cases kd
    · try simp 
      refine CondK.intro (fun h1 => ?_) (fun h1 => ?_)
      · simp at h1
        omega
      · try simp 
        apply he
        try simp 
        simp [rreachV, rgraphV, ← hc]
    · have hnx0 := hkd rfl
      try simp 
      refine CondK.intro (fun h1 => ?_) (fun h1 => ?_)
      · simp at h1
        omega
      · try simp 
        apply he
        try simp 
        simp [rreachV, rgraphV, ← hc, hnx0]
end Go.Proofs.YtkhddecnllcaiaaGreat
end

section
/- Functions of the cut as the value layer reads them. (written by gen.py) -/
set_option maxRecDepth 20000
namespace Go.Proofs.YtkhddecnllcaiaaGreat
open Go.Abs Go

def A68 : ACode :=
  (.seq (.reg [] [⟨some 1, (.box 53 (.tmp 0)), 0, none⟩,
      ⟨some 2, (.assign (.const (.slice none 0 0))), 88, none⟩])
    (.seq (.reg [] [⟨some 3, (.assign (.const (.slice none 0 0))), 88, none⟩])
    (.seq (.seq (.reg [] [⟨some 4, (.assign (.const (.int .i64 0))), 3, none⟩])
    (.block 0 (.loop (.seq (.seq (.reg [] [⟨some 10, (.move (.tmp 4)), 3, none⟩,
      ⟨some 11, (.fieldAddr 53 (.tmp 1) 0), 0, none⟩,
      ⟨some 12, (.load 27 (.tmp 11)), 27, none⟩,
      ⟨some 13, (.call ⟨(.builtin .len), #[(.tmp 12)], #[27]⟩), 3, none⟩,
      ⟨some 14, (.binOp .lss 3 (.tmp 10) (.tmp 13) 3), 4, none⟩])
    (.cond (.tmp 14)
    .skip
    (.exit 0)))
    (.seq (.block 1 (.seq (.reg [] [⟨some 17, (.fieldAddr 53 (.tmp 1) 0), 0, none⟩,
      ⟨some 18, (.load 27 (.tmp 17)), 27, none⟩,
      ⟨some 19, (.call ⟨(.builtin .len), #[(.tmp 18)], #[27]⟩), 3, none⟩,
      ⟨some 20, (.makeSlice 89 (.tmp 19) (.tmp 19)), 89, none⟩,
      ⟨some 5, (.assign (.tmp 20)), 89, none⟩])
    (.seq (.reg [] [⟨some 21, (.move (.tmp 5)), 89, none⟩,
      ⟨some 22, (.move (.tmp 4)), 3, none⟩,
      ⟨some 23, (.indexAddr 89 (.tmp 21) (.tmp 22)), 0, none⟩,
      ⟨none, (.store 4 (.tmp 23) (.const (.bool true))), 0, none⟩])
    (.seq (.reg [] [⟨some 24, (.move (.tmp 4)), 3, none⟩,
      ⟨some 25, (.buildSlice 23 1 #[(0, (.tmp 24))]), 23, none⟩,
      ⟨some 6, (.assign (.tmp 25)), 23, none⟩])
    (.seq (.block 2 (.loop (.seq (.seq (.reg [] [⟨some 26, (.move (.tmp 6)), 23, none⟩,
      ⟨some 27, (.call ⟨(.builtin .len), #[(.tmp 26)], #[23]⟩), 3, none⟩,
      ⟨some 28, (.binOp .gtr 3 (.tmp 27) (.const (.int .i64 0)) 3), 4, none⟩])
    (.cond (.tmp 28)
    .skip
    (.exit 2)))
    (.block 3 (.seq (.reg [] [⟨some 29, (.move (.tmp 6)), 23, none⟩,
      ⟨some 30, (.move (.tmp 6)), 23, none⟩,
      ⟨some 31, (.call ⟨(.builtin .len), #[(.tmp 30)], #[23]⟩), 3, none⟩,
      ⟨some 32, (.binOp .sub 3 (.tmp 31) (.const (.int .i64 1)) 3), 3, none⟩,
      ⟨some 33, (.indexAddr 23 (.tmp 29) (.tmp 32)), 0, none⟩,
      ⟨some 34, (.load 3 (.tmp 33)), 3, none⟩,
      ⟨some 7, (.assign (.tmp 34)), 3, none⟩])
    (.seq (.reg [] [⟨some 35, (.move (.tmp 6)), 23, none⟩,
      ⟨some 36, (.move (.tmp 6)), 23, none⟩,
      ⟨some 37, (.call ⟨(.builtin .len), #[(.tmp 36)], #[23]⟩), 3, none⟩,
      ⟨some 38, (.binOp .sub 3 (.tmp 37) (.const (.int .i64 1)) 3), 3, none⟩,
      ⟨some 39, (.slice 23 (.tmp 35) none (some (.tmp 38)) none), 23, none⟩,
      ⟨some 6, (.assign (.tmp 39)), 23, none⟩])
    (.seq (.reg [] [⟨some 8, (.assign (.const (.int .i64 0))), 3, none⟩])
    (.block 4 (.loop (.seq (.seq (.reg [] [⟨some 40, (.move (.tmp 8)), 3, none⟩,
      ⟨some 41, (.fieldAddr 53 (.tmp 1) 1), 0, none⟩,
      ⟨some 42, (.load 27 (.tmp 41)), 27, none⟩,
      ⟨some 43, (.move (.tmp 7)), 3, none⟩,
      ⟨some 44, (.indexAddr 27 (.tmp 42) (.tmp 43)), 0, none⟩,
      ⟨some 45, (.load 23 (.tmp 44)), 23, none⟩,
      ⟨some 46, (.call ⟨(.builtin .len), #[(.tmp 45)], #[23]⟩), 3, none⟩,
      ⟨some 47, (.binOp .lss 3 (.tmp 40) (.tmp 46) 3), 4, none⟩])
    (.cond (.tmp 47)
    .skip
    (.exit 4)))
    (.seq (.block 5 (.seq (.reg [] [⟨some 50, (.fieldAddr 53 (.tmp 1) 1), 0, none⟩,
      ⟨some 51, (.load 27 (.tmp 50)), 27, none⟩,
      ⟨some 52, (.move (.tmp 7)), 3, none⟩,
      ⟨some 53, (.indexAddr 27 (.tmp 51) (.tmp 52)), 0, none⟩,
      ⟨some 54, (.load 23 (.tmp 53)), 23, none⟩,
      ⟨some 55, (.move (.tmp 8)), 3, none⟩,
      ⟨some 56, (.indexAddr 23 (.tmp 54) (.tmp 55)), 0, none⟩,
      ⟨some 57, (.load 3 (.tmp 56)), 3, none⟩,
      ⟨some 9, (.assign (.tmp 57)), 3, none⟩])
    (.seq (.reg [] [⟨some 58, (.move (.tmp 5)), 89, none⟩,
      ⟨some 59, (.move (.tmp 9)), 3, none⟩,
      ⟨some 60, (.indexAddr 89 (.tmp 58) (.tmp 59)), 0, none⟩,
      ⟨some 61, (.load 4 (.tmp 60)), 4, none⟩,
      ⟨some 62, (.unOp .not 4 (.tmp 61)), 4, none⟩])
    (.cond (.tmp 62)
    (.seq (.reg [] [⟨some 63, (.move (.tmp 5)), 89, none⟩,
      ⟨some 64, (.move (.tmp 9)), 3, none⟩,
      ⟨some 65, (.indexAddr 89 (.tmp 63) (.tmp 64)), 0, none⟩,
      ⟨none, (.store 4 (.tmp 65) (.const (.bool true))), 0, none⟩])
    (.reg [] [⟨some 66, (.move (.tmp 6)), 23, none⟩,
      ⟨some 67, (.move (.tmp 9)), 3, none⟩,
      ⟨some 68, (.buildSlice 23 1 #[(0, (.tmp 67))]), 23, none⟩,
      ⟨some 69, (.call ⟨(.builtin .append), #[(.tmp 66), (.tmp 68)], #[23, 23]⟩), 23, none⟩,
      ⟨some 6, (.assign (.tmp 69)), 23, none⟩]))
    .skip))))
    (.reg [] [⟨some 48, (.move (.tmp 8)), 3, none⟩,
      ⟨some 49, (.binOp .add 3 (.tmp 48) (.const (.int .i64 1)) 3), 3, none⟩,
      ⟨some 8, (.assign (.tmp 49)), 3, none⟩]))))))))))))
    (.reg [] [⟨some 70, (.move (.tmp 3)), 88, none⟩,
      ⟨some 71, (.move (.tmp 5)), 89, none⟩,
      ⟨some 72, (.buildSlice 88 1 #[(0, (.tmp 71))]), 88, none⟩,
      ⟨some 73, (.call ⟨(.builtin .append), #[(.tmp 70), (.tmp 72)], #[88, 88]⟩), 88, none⟩,
      ⟨some 3, (.assign (.tmp 73)), 88, none⟩]))))))
    (.reg [] [⟨some 15, (.move (.tmp 4)), 3, none⟩,
      ⟨some 16, (.binOp .add 3 (.tmp 15) (.const (.int .i64 1)) 3), 3, none⟩,
      ⟨some 4, (.assign (.tmp 16)), 3, none⟩]))))))
    (.seq (.reg [] [⟨some 74, (.move (.tmp 3)), 88, none⟩,
      ⟨some 2, (.assign (.tmp 74)), 88, none⟩])
    .ret))))
def A69 : ACode :=
  (.seq (.reg [] [⟨some 4, (.assign (.const (.bool false))), 4, none⟩])
    (.seq (.seq (.reg [] [⟨some 5, (.assign (.const (.int .i64 0))), 3, none⟩])
    (.block 0 (.loop (.seq (.seq (.reg [] [⟨some 6, (.move (.tmp 5)), 3, none⟩,
      ⟨some 7, (.move (.tmp 0)), 89, none⟩,
      ⟨some 8, (.call ⟨(.builtin .len), #[(.tmp 7)], #[89]⟩), 3, none⟩,
      ⟨some 9, (.binOp .lss 3 (.tmp 6) (.tmp 8) 3), 4, none⟩])
    (.cond (.tmp 9)
    .skip
    (.exit 0)))
    (.seq (.block 1 (.seq (.reg [] [⟨some 12, (.move (.tmp 0)), 89, none⟩,
      ⟨some 13, (.move (.tmp 5)), 3, none⟩,
      ⟨some 14, (.indexAddr 89 (.tmp 12) (.tmp 13)), 0, none⟩,
      ⟨some 15, (.load 4 (.tmp 14)), 4, none⟩,
      ⟨some 16, (.move (.tmp 15)), 4, none⟩,
      ⟨some 17, (.move (.tmp 1)), 89, some (16, true)⟩,
      ⟨some 18, (.move (.tmp 5)), 3, some (16, true)⟩,
      ⟨some 19, (.indexAddr 89 (.tmp 17) (.tmp 18)), 0, some (16, true)⟩,
      ⟨some 20, (.load 4 (.tmp 19)), 4, some (16, true)⟩,
      ⟨some 21, (.pick (.tmp 16) (.tmp 20) (.const (.bool false))), 4, none⟩])
    (.cond (.tmp 21)
    (.seq (.reg [] [⟨some 4, (.assign (.const (.bool true))), 4, none⟩])
    .ret)
    .skip)))
    (.reg [] [⟨some 10, (.move (.tmp 5)), 3, none⟩,
      ⟨some 11, (.binOp .add 3 (.tmp 10) (.const (.int .i64 1)) 3), 3, none⟩,
      ⟨some 5, (.assign (.tmp 11)), 3, none⟩]))))))
    (.seq (.reg [] [⟨some 4, (.assign (.const (.bool false))), 4, none⟩])
    .ret)))
theorem C69 {args : List AV} {r : AV} (hn : args.length ≤ 22) (h : vc Tryz.prog T [] A69 (Fin T [(.tmp 4)] r) ⟨envOf 0 args, []⟩) : CallP Tryz.prog 69 args r :=
  callP_of tok mixed Tryz.func69 (by kernel_rfl) (by kernel_rfl) (by kernel_rfl : Tryz.f69.ntmps = 22) (by kernel_rfl : Tryz.f69.body.bind (strip 22 (fun _ => [])) = some A69) hn h
def A29 : ACode :=
  (.seq (.reg [] [⟨some 4, (.assign (.const (.bool false))), 4, none⟩,
      ⟨some 5, (.assign (.const (.int .i64 0))), 28, none⟩])
    (.seq (.reg [] [⟨some 14, (.move (.tmp 0)), 22, none⟩,
      ⟨some 15, (.move (.tmp 1)), 23, none⟩,
      ⟨some 16, (.call ⟨(.value (.func 37)), #[(.tmp 14), (.tmp 15)], #[22, 23]⟩), 54, none⟩,
      ⟨some 13, (.move (.tmp 16)), 54, none⟩,
      ⟨some 17, (.extract (.tmp 13) 0), 53, none⟩,
      ⟨some 18, (.extract (.tmp 13) 1), 28, none⟩,
      ⟨some 6, (.alloc 53), 0, none⟩,
      ⟨none, (.store 53 (.tmp 6) (.tmp 17)), 0, none⟩,
      ⟨some 7, (.assign (.tmp 18)), 28, none⟩])
    (.seq (.seq (.reg [] [⟨some 19, (.move (.tmp 7)), 28, none⟩,
      ⟨some 20, (.binOp .neq 28 (.tmp 19) (.const (.int .i64 0)) 28), 4, none⟩])
    (.cond (.tmp 20)
    (.seq (.reg [] [⟨some 21, (.move (.tmp 7)), 28, none⟩,
      ⟨some 4, (.assign (.const (.bool false))), 4, none⟩,
      ⟨some 5, (.assign (.tmp 21)), 28, none⟩])
    .ret)
    .skip))
    (.seq (.reg [] [⟨some 22, (.load 53 (.tmp 6)), 53, none⟩,
      ⟨some 23, (.call ⟨(.value (.func 68)), #[(.tmp 22)], #[53]⟩), 88, none⟩,
      ⟨some 8, (.assign (.tmp 23)), 88, none⟩])
    (.seq (.seq (.reg [] [⟨some 9, (.assign (.const (.int .i64 0))), 3, none⟩])
    (.block 0 (.loop (.seq (.seq (.reg [] [⟨some 24, (.move (.tmp 9)), 3, none⟩,
      ⟨some 25, (.fieldAddr 53 (.tmp 6) 0), 0, none⟩,
      ⟨some 26, (.load 27 (.tmp 25)), 27, none⟩,
      ⟨some 27, (.call ⟨(.builtin .len), #[(.tmp 26)], #[27]⟩), 3, none⟩,
      ⟨some 28, (.binOp .lss 3 (.tmp 24) (.tmp 27) 3), 4, none⟩])
    (.cond (.tmp 28)
    .skip
    (.exit 0)))
    (.seq (.block 1 (.seq (.reg [] [⟨some 31, (.fieldAddr 53 (.tmp 6) 1), 0, none⟩,
      ⟨some 32, (.load 27 (.tmp 31)), 27, none⟩,
      ⟨some 33, (.move (.tmp 9)), 3, none⟩,
      ⟨some 34, (.indexAddr 27 (.tmp 32) (.tmp 33)), 0, none⟩,
      ⟨some 35, (.load 23 (.tmp 34)), 23, none⟩,
      ⟨some 10, (.assign (.tmp 35)), 23, none⟩])
    (.seq (.reg [] [⟨some 11, (.assign (.const (.int .i64 1))), 3, none⟩])
    (.block 2 (.loop (.seq (.seq (.reg [] [⟨some 36, (.move (.tmp 11)), 3, none⟩,
      ⟨some 37, (.move (.tmp 10)), 23, none⟩,
      ⟨some 38, (.call ⟨(.builtin .len), #[(.tmp 37)], #[23]⟩), 3, none⟩,
      ⟨some 39, (.binOp .lss 3 (.tmp 36) (.tmp 38) 3), 4, none⟩])
    (.cond (.tmp 39)
    .skip
    (.exit 2)))
    (.seq (.block 3 (.seq (.reg [] [⟨some 12, (.assign (.const (.int .i64 0))), 3, none⟩])
    (.block 4 (.loop (.seq (.seq (.reg [] [⟨some 42, (.move (.tmp 12)), 3, none⟩,
      ⟨some 43, (.move (.tmp 11)), 3, none⟩,
      ⟨some 44, (.binOp .lss 3 (.tmp 42) (.tmp 43) 3), 4, none⟩])
    (.cond (.tmp 44)
    .skip
    (.exit 4)))
    (.seq (.block 5 (.seq (.draw [] [⟨some 47, (.move (.tmp 8)), 88, none⟩,
      ⟨some 48, (.move (.tmp 10)), 23, none⟩,
      ⟨some 49, (.move (.tmp 11)), 3, none⟩,
      ⟨some 50, (.indexAddr 23 (.tmp 48) (.tmp 49)), 0, none⟩,
      ⟨some 51, (.load 3 (.tmp 50)), 3, none⟩,
      ⟨some 52, (.indexAddr 88 (.tmp 47) (.tmp 51)), 0, none⟩,
      ⟨some 53, (.load 89 (.tmp 52)), 89, none⟩,
      ⟨some 54, (.move (.tmp 8)), 88, none⟩,
      ⟨some 55, (.move (.tmp 10)), 23, none⟩,
      ⟨some 56, (.move (.tmp 12)), 3, none⟩,
      ⟨some 57, (.indexAddr 23 (.tmp 55) (.tmp 56)), 0, none⟩,
      ⟨some 58, (.load 3 (.tmp 57)), 3, none⟩,
      ⟨some 59, (.indexAddr 88 (.tmp 54) (.tmp 58)), 0, none⟩,
      ⟨some 60, (.load 89 (.tmp 59)), 89, none⟩,
      ⟨some 61, (.call ⟨(.value (.func 69)), #[(.tmp 53), (.tmp 60)], #[89, 89]⟩), 4, none⟩,
      ⟨some 62, (.unOp .not 4 (.tmp 61)), 4, none⟩] [(0, 1), (0, 2), (1, 2), (0, 3), (0, 4), (0, 7), (1, 7), (2, 7), (3, 7), (4, 7), (5, 7), (6, 7), (0, 8), (1, 8), (2, 8), (3, 8), (4, 8), (5, 8), (6, 8), (7, 8), (0, 9), (1, 9), (2, 9), (3, 9), (4, 9), (5, 9), (6, 9), (7, 9), (8, 9), (0, 10), (1, 10), (2, 10), (3, 10), (4, 10), (5, 10), (6, 10), (7, 10), (0, 11), (1, 11), (2, 11), (3, 11), (4, 11), (5, 11), (6, 11), (7, 11), (0, 12), (1, 12), (2, 12), (3, 12), (4, 12), (5, 12), (6, 12), (0, 13), (1, 13), (2, 13), (3, 13), (4, 13), (5, 13), (6, 13)])
    (.cond (.tmp 62)
    (.seq (.reg [] [⟨some 4, (.assign (.const (.bool false))), 4, none⟩,
      ⟨some 5, (.assign (.const (.int .i64 0))), 28, none⟩])
    .ret)
    .skip)))
    (.reg [] [⟨some 45, (.move (.tmp 12)), 3, none⟩,
      ⟨some 46, (.binOp .add 3 (.tmp 45) (.const (.int .i64 1)) 3), 3, none⟩,
      ⟨some 12, (.assign (.tmp 46)), 3, none⟩])))))))
    (.reg [] [⟨some 40, (.move (.tmp 11)), 3, none⟩,
      ⟨some 41, (.binOp .add 3 (.tmp 40) (.const (.int .i64 1)) 3), 3, none⟩,
      ⟨some 11, (.assign (.tmp 41)), 3, none⟩]))))))))
    (.reg [] [⟨some 29, (.move (.tmp 9)), 3, none⟩,
      ⟨some 30, (.binOp .add 3 (.tmp 29) (.const (.int .i64 1)) 3), 3, none⟩,
      ⟨some 9, (.assign (.tmp 30)), 3, none⟩]))))))
    (.seq (.reg [] [⟨some 4, (.assign (.const (.bool true))), 4, none⟩,
      ⟨some 5, (.assign (.const (.int .i64 0))), 28, none⟩])
    .ret))))))
theorem C29 {args : List AV} {r : AV} (hn : args.length ≤ 63) (h : vc Tryz.prog T [] A29 (Fin T [(.tmp 4), (.tmp 5)] r) ⟨envOf 0 args, []⟩) : CallP Tryz.prog 29 args r :=
  callP_of tok mixed Tryz.func29 (by kernel_rfl) (by kernel_rfl) (by kernel_rfl : Tryz.f29.ntmps = 63) (by kernel_rfl : Tryz.f29.body.bind (strip 63 (fun _ => [])) = some A29) hn h
def A31 : ACode :=
  (.seq (.reg [] [⟨some 4, (.assign (.const (.slice none 0 0))), 23, none⟩,
      ⟨some 5, (.assign (.const (.bool false))), 4, none⟩,
      ⟨some 6, (.assign (.const (.int .i64 0))), 28, none⟩])
    (.seq (.reg [] [⟨some 13, (.move (.tmp 0)), 22, none⟩,
      ⟨some 14, (.move (.tmp 1)), 23, none⟩,
      ⟨some 15, (.call ⟨(.value (.func 37)), #[(.tmp 13), (.tmp 14)], #[22, 23]⟩), 54, none⟩,
      ⟨some 12, (.move (.tmp 15)), 54, none⟩,
      ⟨some 16, (.extract (.tmp 12) 0), 53, none⟩,
      ⟨some 17, (.extract (.tmp 12) 1), 28, none⟩,
      ⟨some 7, (.alloc 53), 0, none⟩,
      ⟨none, (.store 53 (.tmp 7) (.tmp 16)), 0, none⟩,
      ⟨some 8, (.assign (.tmp 17)), 28, none⟩])
    (.seq (.seq (.reg [] [⟨some 18, (.move (.tmp 8)), 28, none⟩,
      ⟨some 19, (.binOp .neq 28 (.tmp 18) (.const (.int .i64 0)) 28), 4, none⟩])
    (.cond (.tmp 19)
    (.seq (.reg [] [⟨some 20, (.move (.tmp 8)), 28, none⟩,
      ⟨some 4, (.assign (.const (.slice none 0 0))), 23, none⟩,
      ⟨some 5, (.assign (.const (.bool false))), 4, none⟩,
      ⟨some 6, (.assign (.tmp 20)), 28, none⟩])
    .ret)
    .skip))
    (.seq (.reg [] [⟨some 22, (.load 53 (.tmp 7)), 53, none⟩,
      ⟨some 23, (.call ⟨(.value (.func 70)), #[(.tmp 22)], #[53]⟩), 63, none⟩,
      ⟨some 21, (.move (.tmp 23)), 63, none⟩,
      ⟨some 24, (.extract (.tmp 21) 0), 3, none⟩,
      ⟨some 25, (.extract (.tmp 21) 1), 4, none⟩,
      ⟨some 9, (.assign (.tmp 24)), 3, none⟩,
      ⟨some 10, (.assign (.tmp 25)), 4, none⟩])
    (.seq (.reg [] [⟨some 26, (.load 53 (.tmp 7)), 53, none⟩,
      ⟨some 27, (.call ⟨(.value (.func 38)), #[(.tmp 26)], #[53]⟩), 27, none⟩,
      ⟨some 11, (.assign (.tmp 27)), 27, none⟩])
    (.seq (.seq (.reg [] [⟨some 28, (.move (.tmp 10)), 4, none⟩,
      ⟨some 29, (.unOp .not 4 (.tmp 28)), 4, none⟩,
      ⟨some 30, (.move (.tmp 29)), 4, none⟩,
      ⟨some 31, (.move (.tmp 11)), 27, some (30, false)⟩,
      ⟨some 32, (.call ⟨(.builtin .len), #[(.tmp 31)], #[27]⟩), 3, some (30, false)⟩,
      ⟨some 33, (.binOp .neq 3 (.tmp 32) (.const (.int .i64 1)) 3), 4, some (30, false)⟩,
      ⟨some 34, (.pick (.tmp 30) (.const (.bool true)) (.tmp 33)), 4, none⟩])
    (.cond (.tmp 34)
    (.seq (.reg [] [⟨some 4, (.assign (.const (.slice none 0 0))), 23, none⟩,
      ⟨some 5, (.assign (.const (.bool false))), 4, none⟩,
      ⟨some 6, (.assign (.const (.int .i64 0))), 28, none⟩])
    .ret)
    .skip))
    (.seq (.reg [] [⟨some 35, (.buildSlice 23 0 #[]), 23, none⟩,
      ⟨some 36, (.move (.tmp 11)), 27, none⟩,
      ⟨some 37, (.indexAddr 27 (.tmp 36) (.const (.int .i64 0))), 0, none⟩,
      ⟨some 38, (.load 23 (.tmp 37)), 23, none⟩,
      ⟨some 39, (.call ⟨(.builtin .append), #[(.tmp 35), (.tmp 38)], #[23, 23]⟩), 23, none⟩,
      ⟨some 4, (.assign (.tmp 39)), 23, none⟩,
      ⟨some 5, (.assign (.const (.bool true))), 4, none⟩,
      ⟨some 6, (.assign (.const (.int .i64 0))), 28, none⟩])
    .ret)))))))
theorem C31 {args : List AV} {r : AV} (hn : args.length ≤ 40) (h : vc Tryz.prog T [] A31 (Fin T [(.tmp 4), (.tmp 5), (.tmp 6)] r) ⟨envOf 0 args, []⟩) : CallP Tryz.prog 31 args r :=
  callP_of tok mixed Tryz.func31 (by kernel_rfl) (by kernel_rfl) (by kernel_rfl : Tryz.f31.ntmps = 40) (by kernel_rfl : Tryz.f31.body.bind (strip 40 (fun _ => [])) = some A31) hn h
def A6 : ACode :=
  (.seq (.reg [] [⟨some 4, (.assign (.const (.bool false))), 4, none⟩])
    (.seq (.seq (.reg [] [⟨some 17, (.move (.tmp 0)), 22, none⟩,
      ⟨some 18, (.call ⟨(.value (.func 7)), #[(.tmp 17)], #[22]⟩), 4, none⟩,
      ⟨some 19, (.move (.tmp 18)), 4, none⟩,
      ⟨some 20, (.move (.tmp 1)), 23, some (19, false)⟩,
      ⟨some 21, (.call ⟨(.value (.func 8)), #[(.tmp 20)], #[23]⟩), 4, some (19, false)⟩,
      ⟨some 22, (.pick (.tmp 19) (.const (.bool true)) (.tmp 21)), 4, none⟩])
    (.cond (.tmp 22)
    (.seq (.reg [] [⟨some 23, (.call ⟨(.value (.func 9)), #[], #[]⟩), 4, none⟩,
      ⟨some 4, (.assign (.tmp 23)), 4, none⟩])
    .ret)
    .skip))
    (.seq (.reg [] [⟨some 25, (.move (.tmp 0)), 22, none⟩,
      ⟨some 26, (.move (.tmp 1)), 23, none⟩,
      ⟨some 27, (.call ⟨(.value (.func 28)), #[(.tmp 25), (.tmp 26)], #[22, 23]⟩), 32, none⟩,
      ⟨some 24, (.move (.tmp 27)), 32, none⟩,
      ⟨some 28, (.extract (.tmp 24) 0), 4, none⟩,
      ⟨some 29, (.extract (.tmp 24) 1), 28, none⟩,
      ⟨some 5, (.assign (.tmp 28)), 4, none⟩,
      ⟨some 6, (.assign (.tmp 29)), 28, none⟩])
    (.seq (.reg [] [⟨some 31, (.move (.tmp 0)), 22, none⟩,
      ⟨some 32, (.move (.tmp 1)), 23, none⟩,
      ⟨some 33, (.call ⟨(.value (.func 29)), #[(.tmp 31), (.tmp 32)], #[22, 23]⟩), 32, none⟩,
      ⟨some 30, (.move (.tmp 33)), 32, none⟩,
      ⟨some 34, (.extract (.tmp 30) 0), 4, none⟩,
      ⟨some 35, (.extract (.tmp 30) 1), 28, none⟩,
      ⟨some 7, (.assign (.tmp 34)), 4, none⟩,
      ⟨some 8, (.assign (.tmp 35)), 28, none⟩])
    (.seq (.reg [] [⟨some 37, (.move (.tmp 0)), 22, none⟩,
      ⟨some 38, (.move (.tmp 1)), 23, none⟩,
      ⟨some 39, (.call ⟨(.value (.func 30)), #[(.tmp 37), (.tmp 38)], #[22, 23]⟩), 42, none⟩,
      ⟨some 36, (.move (.tmp 39)), 42, none⟩,
      ⟨some 40, (.extract (.tmp 36) 0), 23, none⟩,
      ⟨some 41, (.extract (.tmp 36) 1), 4, none⟩,
      ⟨some 42, (.extract (.tmp 36) 2), 28, none⟩,
      ⟨some 9, (.assign (.tmp 40)), 23, none⟩,
      ⟨some 10, (.assign (.tmp 41)), 4, none⟩,
      ⟨some 11, (.assign (.tmp 42)), 28, none⟩])
    (.seq (.reg [] [⟨some 44, (.move (.tmp 0)), 22, none⟩,
      ⟨some 45, (.move (.tmp 1)), 23, none⟩,
      ⟨some 46, (.call ⟨(.value (.func 31)), #[(.tmp 44), (.tmp 45)], #[22, 23]⟩), 42, none⟩,
      ⟨some 43, (.move (.tmp 46)), 42, none⟩,
      ⟨some 47, (.extract (.tmp 43) 0), 23, none⟩,
      ⟨some 48, (.extract (.tmp 43) 1), 4, none⟩,
      ⟨some 49, (.extract (.tmp 43) 2), 28, none⟩,
      ⟨some 12, (.assign (.tmp 47)), 23, none⟩,
      ⟨some 13, (.assign (.tmp 48)), 4, none⟩,
      ⟨some 14, (.assign (.tmp 49)), 28, none⟩])
    (.seq (.seq (.reg [] [⟨some 50, (.move (.tmp 5)), 4, none⟩,
      ⟨some 51, (.move (.tmp 7)), 4, none⟩,
      ⟨some 52, (.binOp .neq 4 (.tmp 50) (.tmp 51) 4), 4, none⟩,
      ⟨some 53, (.move (.tmp 52)), 4, none⟩,
      ⟨some 54, (.move (.tmp 6)), 28, some (53, false)⟩,
      ⟨some 55, (.move (.tmp 8)), 28, some (53, false)⟩,
      ⟨some 56, (.binOp .neq 28 (.tmp 54) (.tmp 55) 28), 4, some (53, false)⟩,
      ⟨some 57, (.pick (.tmp 53) (.const (.bool true)) (.tmp 56)), 4, none⟩,
      ⟨some 58, (.move (.tmp 57)), 4, none⟩,
      ⟨some 59, (.move (.tmp 9)), 23, some (58, false)⟩,
      ⟨some 60, (.move (.tmp 12)), 23, some (58, false)⟩,
      ⟨some 61, (.call ⟨(.value (.func 32)), #[(.tmp 59), (.tmp 60)], #[23, 23]⟩), 4, some (58, false)⟩,
      ⟨some 62, (.unOp .not 4 (.tmp 61)), 4, some (58, false)⟩,
      ⟨some 63, (.pick (.tmp 58) (.const (.bool true)) (.tmp 62)), 4, none⟩,
      ⟨some 64, (.move (.tmp 63)), 4, none⟩,
      ⟨some 65, (.move (.tmp 10)), 4, some (64, false)⟩,
      ⟨some 66, (.move (.tmp 13)), 4, some (64, false)⟩,
      ⟨some 67, (.binOp .neq 4 (.tmp 65) (.tmp 66) 4), 4, some (64, false)⟩,
      ⟨some 68, (.pick (.tmp 64) (.const (.bool true)) (.tmp 67)), 4, none⟩,
      ⟨some 69, (.move (.tmp 68)), 4, none⟩,
      ⟨some 70, (.move (.tmp 11)), 28, some (69, false)⟩,
      ⟨some 71, (.move (.tmp 14)), 28, some (69, false)⟩,
      ⟨some 72, (.binOp .neq 28 (.tmp 70) (.tmp 71) 28), 4, some (69, false)⟩,
      ⟨some 73, (.pick (.tmp 69) (.const (.bool true)) (.tmp 72)), 4, none⟩])
    (.cond (.tmp 73)
    (.seq (.reg [] [⟨some 4, (.assign (.const (.bool false))), 4, none⟩])
    .ret)
    .skip))
    (.seq (.reg [] [⟨some 75, (.move (.tmp 0)), 22, none⟩,
      ⟨some 76, (.move (.tmp 1)), 23, none⟩,
      ⟨some 77, (.call ⟨(.value (.func 14)), #[(.tmp 75), (.tmp 76)], #[22, 23]⟩), 32, none⟩,
      ⟨some 74, (.move (.tmp 77)), 32, none⟩,
      ⟨some 78, (.extract (.tmp 74) 0), 4, none⟩,
      ⟨some 79, (.extract (.tmp 74) 1), 28, none⟩,
      ⟨some 15, (.assign (.tmp 78)), 4, none⟩,
      ⟨some 16, (.assign (.tmp 79)), 28, none⟩])
    (.seq (.reg [] [⟨some 80, (.move (.tmp 6)), 28, none⟩,
      ⟨some 81, (.binOp .neq 28 (.tmp 80) (.const (.int .i64 0)) 28), 4, none⟩,
      ⟨some 82, (.move (.tmp 81)), 4, none⟩,
      ⟨some 83, (.move (.tmp 16)), 28, some (82, false)⟩,
      ⟨some 84, (.binOp .eql 28 (.tmp 83) (.const (.int .i64 0)) 28), 4, some (82, false)⟩,
      ⟨some 85, (.move (.tmp 84)), 4, some (82, false)⟩,
      ⟨some 86, (.move (.tmp 5)), 4, some (85, true)⟩,
      ⟨some 87, (.unOp .not 4 (.tmp 86)), 4, some (85, true)⟩,
      ⟨some 88, (.move (.tmp 87)), 4, some (85, true)⟩,
      ⟨some 89, (.move (.tmp 15)), 4, some (88, false)⟩,
      ⟨some 90, (.pick (.tmp 88) (.const (.bool true)) (.tmp 89)), 4, some (85, true)⟩,
      ⟨some 91, (.move (.tmp 90)), 4, some (85, true)⟩,
      ⟨some 92, (.move (.tmp 10)), 4, some (91, false)⟩,
      ⟨some 93, (.pick (.tmp 91) (.const (.bool true)) (.tmp 92)), 4, some (85, true)⟩,
      ⟨some 94, (.pick (.tmp 85) (.tmp 93) (.const (.bool false))), 4, some (82, false)⟩,
      ⟨some 95, (.pick (.tmp 82) (.const (.bool true)) (.tmp 94)), 4, none⟩,
      ⟨some 96, (.move (.tmp 95)), 4, none⟩,
      ⟨some 97, (.call ⟨(.value (.func 9)), #[], #[]⟩), 4, some (96, true)⟩,
      ⟨some 98, (.pick (.tmp 96) (.tmp 97) (.const (.bool false))), 4, none⟩,
      ⟨some 4, (.assign (.tmp 98)), 4, none⟩])
    .ret)))))))))
theorem C6 {args : List AV} {r : AV} (hn : args.length ≤ 99) (h : vc Tryz.prog T [] A6 (Fin T [(.tmp 4)] r) ⟨envOf 0 args, []⟩) : CallP Tryz.prog 6 args r :=
  callP_of tok mixed Tryz.func6 (by kernel_rfl) (by kernel_rfl) (by kernel_rfl : Tryz.f6.ntmps = 99) (by kernel_rfl : Tryz.f6.body.bind (strip 99 (fun _ => [])) = some A6) hn h

end Go.Proofs.YtkhddecnllcaiaaGreat
end

section
/- PURSE -/
/- Contracts: which words a word reaches, by their numbers: the document's way. -/
namespace Go.Proofs.YtkhddecnllcaiaaGreat
open Go.Abs Go
set_option maxRecDepth 20000
set_option maxHeartbeats 8000000
attribute [local irreducible] PreK CondK CallK CallG CallX LoopK
attribute [local simp] avsEq avEq akind teq vkind vEq
attribute [local simp] nth_bv

theorem CX68 {args : List AV} {r : AV} (hn : args.length ≤ 75) (h : vc Tryz.prog T [25] A68 (Fin T [.tmp 2] r) ⟨envOf 0 args, []⟩) : CallP Tryz.prog 68 args r :=
  callP_of tok mixed Tryz.func68 (by kernel_rfl) (by kernel_rfl) (by kernel_rfl : Tryz.f68.ntmps = 75) (by kernel_rfl : Tryz.f68.body.bind (strip 75 (fun _ => [])) = some A68) hn h
theorem rclosure_c (g : RG) (hn : g.ws.length ≤ 300) (hlen : g.nx.length = g.ws.length) (hr : Rng g.nx) (hrow : ∀ j, j < g.nx.length → (el g.nx j).length ≤ 100) :
    CallP Tryz.prog 68 [rgraphV g] (.seq 1 ((List.range g.ws.length).map fun k => bools (cloB g.nx k)) false) := by
  refine CX68 (by simp) ?_
  simp [A68, rgraphV]
  repeat (refine PreK.intro (by first | omega | (intros; first | omega | (refine ⟨by omega, ?_⟩; simp_all; done) | (simp_all; done) | (simp_all; omega))) fun _ => ?_; (try simp ))
  refine LoopK.by (ι := Nat) (fun i => ⟨[(4, iv i), (3, .sl 3 (i + 1) 0 i), (1, .pt 1 1 0 0)], [(1, some ⟨3, [rgraphV g], 1, true⟩), (3, some ⟨1, (List.range i).map fun k => bools (cloB g.nx k), i + 1, false⟩)]⟩) (fun i => g.ws.length - i) (fun i => i ≤ g.ws.length) 0 (Nat.zero_le _) (by simp [rgraphV]) ?_
  intro i Q' hi hq he hr2
  simp only [rgraphV]
  try simp 
  refine CondK.intro (fun h1 => ?_) (fun h1 => ?_)
  · simp at h1
    have h1n : i < g.nx.length := by omega
    have hs0 := Search.start (rows := g.nx) h1n
    have hc0 := cntF_start h1
    rw [hlen] at hs0
    generalize hS0 : (List.replicate g.ws.length false).set i true = S0 at hs0 hc0
    have hS1 : (List.replicate g.ws.length (bv false)).set i (bv true) = S0.map bv := by rw [← hS0, List.map_set]; simp
    have hn0 := nth_rep g.ws.length i (bv false) h1
    simp only [bv] at hS1 hn0
    repeat (refine PreK.intro (by first | omega | (intros; first | omega | (refine ⟨by omega, ?_⟩; simp_all; done) | (simp_all; done) | (simp_all; omega))) fun _ => ?_; (try simp [h1, hn0]))
    refine LoopK.by (ι := Nat × List Int × List Int × List Bool) (fun x => ⟨[(6, .sl 25 x.1 0 x.2.1.length), (5, .sl 20 1 0 g.ws.length), (4, iv i), (3, .sl 3 (i + 1) 0 i), (1, .pt 1 1 0 0)],
        [(25, some ⟨1, (x.2.1 ++ x.2.2.1).map iv, x.1, false⟩), (20, some ⟨1, x.2.2.2.map bv, 1, false⟩), (1, some ⟨3, [rgraphV g], 1, true⟩), (3, some ⟨1, (List.range i).map fun k => bools (cloB g.nx k), i + 1, false⟩)]⟩)
      (fun x => cntF x.2.2.2 + x.2.1.length) (fun x => Search g.nx i x.2.2.2 x.2.1 ∧ cntF x.2.2.2 + x.2.1.length ≤ g.ws.length ∧ x.2.1.length + x.2.2.1.length ≤ 1000) (1, [(i : Int)], [], S0) ⟨hs0, by simp; omega, by simp⟩ (by simp [hS1, rgraphV]) ?_
    intro ⟨v, todo, post, seen⟩ Q2 ⟨hs, hc, hb⟩ hq2 he2 hr3
    dsimp only at hs hc hb
    have hsl := hs.len
    simp only [rgraphV]
    rcases List.eq_nil_or_concat todo with rfl | ⟨init, q, rfl⟩
    · try simp 
      refine CondK.intro (fun h2 => ?_) (fun h2 => ?_)
      · simp at h2
      · apply he2
        have hcl := hs.end hr h1n
        have htk : (seen.map bv).take g.ws.length = seen.map bv := List.take_of_length_le (by simp; omega)
        have hsl2 : g.ws.length ≤ seen.length := by omega
        have hpt : List.take i (List.map (fun k => AV.seq 1 (List.map bv (cloB g.nx k)) false) (List.range i)) = List.map (fun k => AV.seq 1 (List.map bv (cloB g.nx k)) false) (List.range i) := List.take_of_length_le (by simp)
        try simp [htk, hsl2, hpt]
        repeat (refine PreK.intro (by first | omega | (intros; first | omega | (refine ⟨by omega, ?_⟩; simp_all; done) | (simp_all; done) | (simp_all; omega))) fun _ => ?_; (try simp [htk, hsl2, hpt]))
        refine hq (i + 1) _ (by omega) (by omega) ?_
        simp [rgraphV, List.range_succ, ← hcl, htk, hpt]
    · obtain ⟨j, rfl, hj, hjs⟩ := hs.pend q (by simp)
      have hrj := hr j hj
      have hlj := hrow j hj
      simp only [List.concat_eq_append] at hs hc hb
      have e0 : el (init ++ [(j : Int)] ++ post) init.length = (j : Int) := by
        rw [List.append_assoc]
        exact el_app_right init ((j : Int) :: post) 0
      have e1 : init.length < (init ++ [(j : Int)] ++ post).length := by simp
      have n0 : nth ((init ++ [(j : Int)] ++ post).map iv) init.length = iv (j : Int) := by rw [nth_map _ _ _ e1, e0]
      simp only [iv, List.map_append, List.map_cons, List.map_nil, List.append_assoc, List.cons_append, List.nil_append] at n0
      have hlen1 : (init ++ [(j : Int)]).length = init.length + 1 := by simp
      have hsame := hs.same (todo' := (j : Int) :: init) (fun q => by simp [or_comm])
      generalize hrw : el g.nx j = row at hrj hlj
      try simp 
      refine CondK.intro (fun h2 => ?_) (fun h2 => ?_)
      · repeat (refine PreK.intro (by first | omega | (intros; first | omega | (refine ⟨by omega, ?_⟩; simp_all; done) | (simp_all; done) | (simp_all; omega))) fun _ => ?_; (try simp [n0, hj]))
        refine LoopK.by (ι := Nat × Nat × List Int × List Int × List Bool) (fun x => ⟨[(8, iv x.1), (7, iv j), (6, .sl 25 x.2.1 0 x.2.2.1.length), (5, .sl 20 1 0 g.ws.length), (4, iv i), (3, .sl 3 (i + 1) 0 i), (1, .pt 1 1 0 0)],
            [(25, some ⟨1, (x.2.2.1 ++ x.2.2.2.1).map iv, x.2.1, false⟩), (20, some ⟨1, x.2.2.2.2.map bv, 1, false⟩), (1, some ⟨3, [rgraphV g], 1, true⟩), (3, some ⟨1, (List.range i).map fun k => bools (cloB g.nx k), i + 1, false⟩)]⟩)
          (fun x => row.length - x.1) (fun x => x.1 ≤ row.length ∧ Search g.nx i x.2.2.2.2 ((j : Int) :: x.2.2.1) ∧ cntF x.2.2.2.2 + x.2.2.1.length = cntF seen + init.length ∧ x.2.2.1.length + x.2.2.2.1.length ≤ 1000 ∧ ∀ p, p < x.1 → el x.2.2.2.2 (el row p).toNat = true)
          (0, v, init, (j : Int) :: post, seen) ⟨Nat.zero_le _, hsame, rfl, by simp at hb ⊢; omega, fun p hp => absurd hp (Nat.not_lt_zero p)⟩ (by simp [rgraphV]) ?_
        intro ⟨p, v', todo', post', seen'⟩ Q3 ⟨hp', hs', hc', hb', hall⟩ hq3 he3 hr4
        dsimp only at hp' hs' hc' hb' hall
        have hsl' := hs'.len
        have hjn : j < g.nx.length := hj
        simp only [rgraphV]
        try simp [hjn, hrw]
        repeat (refine PreK.intro (by first | omega | (intros; first | omega | (refine ⟨by omega, ?_⟩; simp_all; done) | (simp_all; done) | (simp_all; omega))) fun _ => ?_; (try simp [hjn, hrw]))
        refine CondK.intro (fun h3 => ?_) (fun h3 => ?_)
        · simp at h3
          obtain ⟨k, ek, hk⟩ := hrj p h3
          have hks : k < seen'.length := by omega
          have hkw : k < g.ws.length := by omega
          have ek0 : (0 : Int) ≤ el row p := by omega
          have ekt : (el row p).toNat = k := by omega
          have ekn : el row p < (g.ws.length : Int) := by omega
          have hmem : (k : Int) ∈ el g.nx j := by
            rw [hrw, ← ek, el_eq _ _ h3]
            exact List.getElem_mem _
          try simp [h3, hks, ek0, ekt, ekn, hsl', hk, hkw, hjn, hrw]
          repeat (refine PreK.intro (by first | omega | (intros; first | omega | (refine ⟨by omega, ?_⟩; simp_all; done) | (simp_all; done) | (simp_all; omega))) fun _ => ?_; (try simp [h3, hks, ek0, ekt, ekn, hsl', hk, hkw, hjn, hrw]))
          refine CondK.intro (fun h4 => ?_) (fun h4 => ?_)
          · have hf : el seen' k = false := by (try simp at h4); simpa using h4
            have hcs := cntF_set seen' k hks hf
            have hps := hs'.push (j := j) (by simp) hmem hk
            cases post' with
            | nil =>
              try simp [h3, hks, ek0, ekt, ekn, hsl', hk, hkw, hjn, hrw]
              repeat (refine PreK.intro (by first | omega | (intros; first | omega | (refine ⟨by omega, ?_⟩; simp_all; done) | (simp_all; done) | (simp_all; omega))) fun _ => ?_; (try simp [h3, hks, ek0, ekt, ekn, hsl', hk, hkw, hjn, hrw]))
              refine hq3 (p + 1, v' + 1, todo' ++ [(k : Int)], [], seen'.set k true) _ ⟨by dsimp only; omega, by simpa using hps, by simp; omega, by simp; omega, fun q hq => ?_⟩ (by dsimp only; omega) ?_
              · dsimp only
                rw [el_setB _ _ _ _ hks]
                by_cases hqp : q = p
                · subst hqp; rw [ekt]; simp
                · split
                  · rfl
                  · exact hall q (by dsimp only at hq; omega)
              · simp [ek, rgraphV]
            | cons z post'' =>
              try simp [h3, hks, ek0, ekt, ekn, hsl', hk, hkw, hjn, hrw]
              repeat (refine PreK.intro (by first | omega | (intros; first | omega | (refine ⟨by omega, ?_⟩; simp_all; done) | (simp_all; done) | (simp_all; omega))) fun _ => ?_; (try simp [h3, hks, ek0, ekt, ekn, hsl', hk, hkw, hjn, hrw]))
              refine hq3 (p + 1, v' + 1, todo' ++ [(k : Int)], [], seen'.set k true) _ ⟨by dsimp only; omega, by simpa using hps, by simp; omega, by simp at hb' ⊢; omega, fun q hq => ?_⟩ (by dsimp only; omega) ?_
              · dsimp only
                rw [el_setB _ _ _ _ hks]
                by_cases hqp : q = p
                · subst hqp; rw [ekt]; simp
                · split
                  · rfl
                  · exact hall q (by dsimp only at hq; omega)
              · simp [ek, rgraphV]
          · have hf : el seen' k = true := by (try simp at h4); simpa using h4
            try simp 
            repeat (refine PreK.intro (by first | omega | (intros; first | omega | (refine ⟨by omega, ?_⟩; simp_all; done) | (simp_all; done) | (simp_all; omega))) fun _ => ?_; (try simp ))
            refine hq3 (p + 1, v', todo', post', seen') _ ⟨by dsimp only; omega, hs', hc', hb', fun q hq => ?_⟩ (by dsimp only; omega) (by simp [rgraphV])
            dsimp only
            by_cases hqp : q = p
            · subst hqp; rw [ekt]; exact hf
            · exact hall q (by dsimp only at hq; omega)
        · simp at h3
          have hpe : p = row.length := by omega
          subst hpe
          try simp 
          apply he3
          try simp 
          have hpop := hs'.pop (todo' := todo') (j := j) (fun q => by simp) hr hj (by rw [hrw]; exact hall)
          refine hq2 (v', todo', post', seen') _ ⟨hpop, by simp at hc ⊢; omega, hb'⟩ (by simp; omega) (by simp [rgraphV])
      · simp at h2
  · simp at h1
    have hil : i = g.ws.length := by omega
    subst hil
    try simp 
    apply he
    try simp 
    repeat' (first
      | ((with_reducible refine PreK.intro ?_ ?_); (next => (first | omega | (intros; first | omega | (refine ⟨by omega, ?_⟩; repeat (first | assumption | constructor)) | assumption))); intro _; try simp )
      | fail)
    exact List.take_of_length_le (by simp)
theorem rcommon_c (a b : List Bool) (ha : a.length ≤ 1000) (hab : b.length = a.length) : CallP Tryz.prog 69 [bools a, bools b] (bv (commonB a b)) := by
  refine C69 (by simp) ?_
  have hany : ∀ n, n ≤ a.length → ((List.range a.length).drop n).any (fun k => el a k && el b k) = if n < a.length then (el a n && el b n) || ((List.range a.length).drop (n + 1)).any (fun k => el a k && el b k) else false := by
    intro n hn
    split
    · rename_i h
      rw [drop_cons (List.range a.length) n (by simpa using h), List.any_cons]
      have : el (List.range a.length) n = n := by rw [el_eq _ _ (by simpa using h)]; simp
      rw [this]
    · rename_i h
      rw [List.drop_eq_nil_of_le (by simp; omega)]
      rfl
  unfold commonB
  generalize hR : (List.range a.length).any (fun k => el a k && el b k) = R
  simp [A69]
  refine LoopK.by (ι := Nat) (fun i => ⟨[(5, iv i), (0, bools a), (1, bools b)], []⟩) (fun i => a.length - i) (fun i => i ≤ a.length ∧ ((List.range a.length).drop i).any (fun k => el a k && el b k) = R) 0 ⟨Nat.zero_le _, by simpa using hR⟩ (by simp) ?_
  intro i Q' ⟨hi, hc⟩ hq he hr
  rw [hany i hi] at hc
  try simp 
  refine CondK.intro (fun h1 => ?_) (fun h1 => ?_)
  · simp at h1
    have h1b : i < b.length := by omega
    rw [if_pos h1] at hc
    cases hA : el a i
    · rw [hA] at hc
      repeat (refine PreK.intro (by first | omega | (intros; first | omega | (refine ⟨by omega, ?_⟩; simp_all; done) | (simp_all; done) | (simp_all; omega))) fun _ => ?_; (try simp [h1, h1b, hA]))
      refine CondK.intro (fun h2 => ?_) (fun h2 => ?_)
      · simp at h2
      · repeat (refine PreK.intro (by first | omega | (intros; first | omega | (refine ⟨by omega, ?_⟩; simp_all; done) | (simp_all; done) | (simp_all; omega))) fun _ => ?_; (try simp ))
        exact hq (i + 1) _ ⟨by omega, by simpa using hc⟩ (by omega) (by simp)
    · rw [hA] at hc
      cases hB : el b i
      · rw [hB] at hc
        repeat (refine PreK.intro (by first | omega | (intros; first | omega | (refine ⟨by omega, ?_⟩; simp_all; done) | (simp_all; done) | (simp_all; omega))) fun _ => ?_; (try simp [h1, h1b, hA, hB]))
        refine CondK.intro (fun h2 => ?_) (fun h2 => ?_)
        · simp at h2
        · repeat (refine PreK.intro (by first | omega | (intros; first | omega | (refine ⟨by omega, ?_⟩; simp_all; done) | (simp_all; done) | (simp_all; omega))) fun _ => ?_; (try simp ))
          exact hq (i + 1) _ ⟨by omega, by simpa using hc⟩ (by omega) (by simp)
      · rw [hB] at hc
        have : R = true := by rw [← hc]; simp
        subst this
        repeat (refine PreK.intro (by first | omega | (intros; first | omega | (refine ⟨by omega, ?_⟩; simp_all; done) | (simp_all; done) | (simp_all; omega))) fun _ => ?_; (try simp [h1, h1b, hA, hB]))
        refine CondK.intro (fun h2 => ?_) (fun h2 => ?_)
        · try simp 
          apply hr
          try simp 
        · simp at h2
  · simp at h1
    rw [if_neg (by omega)] at hc
    subst hc
    try simp 
    apply he
    try simp 
end Go.Proofs.YtkhddecnllcaiaaGreat
end
