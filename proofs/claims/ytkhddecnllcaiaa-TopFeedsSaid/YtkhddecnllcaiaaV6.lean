/- Part 6 of the proof: the value layer and the contracts of the functions that the statement reaches; proved without conditions beyond those each theorem states. -/
import Derived.Shelf.SlSortCmp.Whole1
import Derived.Shelf.SlSortCmp.NoneTotal
import Derived.Test.YtkhddecnllcaiaaProg
import Derived.Test.YtkhddecnllcaiaaV4
import Derived.Test.YtkhddecnllcaiaaV5
set_option linter.unusedSimpArgs false
set_option linter.unusedVariables false

section
/- Plain: a search in the order of distance; what it finds does not hang on the order of the steps. -/
namespace Go.Proofs.Ytkhddecnllcaiaa
open Go.Abs Go

abbrev Word := List Int
/-- A word and how many steps it is away. -/
abbrev WN := Word × Nat
/-- The words of a list that are not there yet, put at the end; none if there would be more than 300. -/
def addF (d : Nat) : List WN → List Word → Option (List WN)
  | ws, [] => some ws
  | ws, v :: l => if v ∈ ws.map (·.1) then addF d ws l else if ws.length = 300 then none else addF d (ws ++ [(v, d)]) l
def closeF (nx : Word → List Word) : Nat → Nat → List WN → Option (List WN)
  | 0, _, ws => some ws
  | n + 1, i, ws => if i < ws.length then match addF ((el ws i).2 + 1) ws (nx (el ws i).1) with
      | none => none
      | some ws' => closeF nx n (i + 1) ws'
    else some ws
/-- What is reached by so many steps. -/
inductive ReachN (nx : Word → List Word) (w : Word) : Nat → Word → Prop
  | zero : ReachN nx w 0 w
  | succ {n : Nat} {v x : Word} (h : ReachN nx w n v) (hx : x ∈ nx v) : ReachN nx w (n + 1) x
theorem ReachN.congr {nx nx' : Word → List Word} (he : ∀ v x, x ∈ nx v ↔ x ∈ nx' v) {w x : Word} {n : Nat} (h : ReachN nx w n x) : ReachN nx' w n x := by
  induction h with
  | zero => exact .zero
  | succ h hx ih => exact .succ ih ((he _ _).1 hx)
theorem ReachN.trans {nx : Word → List Word} {u v x : Word} {n m : Nat} (h : ReachN nx u n v) (k : ReachN nx v m x) : ReachN nx u (n + m) x := by
  induction k with
  | zero => exact h
  | succ k hx ih => exact .succ ih hx

theorem addF_some {d : Nat} : ∀ {l : List Word} {ws ws' : List WN}, addF d ws l = some ws' → (ws.map (·.1)).Nodup → ws.length ≤ 300 →
    (∃ new, ws' = ws ++ new ∧ ∀ y ∈ new, y.2 = d ∧ y.1 ∈ l) ∧ (ws'.map (·.1)).Nodup ∧ ws'.length ≤ 300 ∧ ∀ x ∈ l, x ∈ ws'.map (·.1)
  | [], ws, ws', h, hn, hl => by
    simp only [addF, Option.some.injEq] at h
    subst h
    exact ⟨⟨[], by simp, by simp⟩, hn, hl, by simp⟩
  | v :: l, ws, ws', h, hn, hl => by
    rw [addF] at h
    split at h
    · rename_i hm
      obtain ⟨⟨new, h1, h2⟩, h3, h4, h5⟩ := addF_some h hn hl
      refine ⟨⟨new, h1, fun y hy => ⟨(h2 y hy).1, by simp [(h2 y hy).2]⟩⟩, h3, h4, fun x hx => ?_⟩
      rcases List.mem_cons.1 hx with rfl | hx
      · rw [h1, List.map_append, List.mem_append]; exact .inl hm
      · exact h5 x hx
    · rename_i hm
      split at h
      · cases h
      · rename_i h300
        have hn' : ((ws ++ [(v, d)]).map (·.1)).Nodup := by
          rw [List.map_append, List.nodup_append]
          refine ⟨hn, by simp, fun a ha b hb => ?_⟩
          simp only [List.map_cons, List.map_nil, List.mem_singleton] at hb
          intro e
          exact hm (by rw [← hb, ← e]; exact ha)
        obtain ⟨⟨new, h1, h2⟩, h3, h4, h5⟩ := addF_some h hn' (by simp; omega)
        refine ⟨⟨(v, d) :: new, by rw [h1]; simp, fun y hy => ?_⟩, h3, h4, fun x hx => ?_⟩
        · rcases List.mem_cons.1 hy with rfl | hy
          · exact ⟨rfl, by simp⟩
          · exact ⟨(h2 y hy).1, by simp [(h2 y hy).2]⟩
        · rcases List.mem_cons.1 hx with rfl | hx
          · rw [h1]; simp
          · exact h5 x hx
theorem addF_none {d : Nat} : ∀ {l : List Word} {ws : List WN}, addF d ws l = none → (ws.map (·.1)).Nodup → ∃ m : List Word, m.Nodup ∧ m.length = 301 ∧ ∀ x ∈ m, x ∈ ws.map (·.1) ∨ x ∈ l
  | [], ws, h, _ => by simp [addF] at h
  | v :: l, ws, h, hn => by
    rw [addF] at h
    split at h
    · obtain ⟨m, h1, h2, h3⟩ := addF_none h hn
      refine ⟨m, h1, h2, fun x hx => ?_⟩
      rcases h3 x hx with e | e
      · exact .inl e
      · exact .inr (by simp [e])
    · rename_i hm
      have hn' : ((ws ++ [(v, d)]).map (·.1)).Nodup := by
        rw [List.map_append, List.nodup_append]
        refine ⟨hn, by simp, fun a ha b hb => ?_⟩
        simp only [List.map_cons, List.map_nil, List.mem_singleton] at hb
        intro e
        exact hm (by rw [← hb, ← e]; exact ha)
      split at h
      · rename_i h300
        refine ⟨(ws ++ [(v, d)]).map (·.1), hn', by simp [h300], fun x hx => ?_⟩
        rw [List.map_append, List.mem_append] at hx
        rcases hx with e | e
        · exact .inl e
        · simp only [List.map_cons, List.map_nil, List.mem_singleton] at e
          exact .inr (by simp [e])
      · obtain ⟨m, h1, h2, h3⟩ := addF_none h hn'
        refine ⟨m, h1, h2, fun x hx => ?_⟩
        rcases h3 x hx with e | e
        · rw [List.map_append, List.mem_append] at e
          rcases e with e | e
          · exact .inl e
          · simp only [List.map_cons, List.map_nil, List.mem_singleton] at e
            exact .inr (by simp [e])
        · exact .inr (by simp [e])

structure Found (nx : Word → List Word) (w : Word) (i : Nat) (ws : List WN) : Prop where
  nodup : (ws.map (·.1)).Nodup
  len : ws.length ≤ 300
  first : ∃ l, ws = (w, 0) :: l
  reach : ∀ y ∈ ws, ReachN nx w y.2 y.1
  mono : ws.Pairwise fun a b => a.2 ≤ b.2
  near : i < ws.length → ∀ y ∈ ws, y.2 ≤ (el ws i).2 + 1
  closed : ∀ y ∈ ws.take i, ∀ x ∈ nx y.1, ∃ z ∈ ws, z.1 = x ∧ z.2 ≤ y.2 + 1
theorem pairwise_el {ws : List WN} (h : ws.Pairwise fun a b => a.2 ≤ b.2) {i j : Nat} (hij : i ≤ j) (hj : j < ws.length) : (el ws i).2 ≤ (el ws j).2 := by
  rw [el_eq _ _ hj, el_eq _ _ (by omega : i < ws.length)]
  by_cases e : i = j
  · subst e; exact Nat.le_refl _
  · exact List.pairwise_iff_getElem.1 h i j (by omega) hj (by omega)
theorem Found.step {nx : Word → List Word} {w : Word} {i : Nat} {ws ws' : List WN} (h : Found nx w i ws) (hi : i < ws.length) (ha : addF ((el ws i).2 + 1) ws (nx (el ws i).1) = some ws') : Found nx w (i + 1) ws' := by
  obtain ⟨⟨new, rfl, h2⟩, h3, h4, h5⟩ := addF_some ha h.nodup h.len
  have hmi := el_mem_of ws i hi
  have hup : ∀ y ∈ ws ++ new, y.2 ≤ (el ws i).2 + 1 := by
    intro y hy
    rcases List.mem_append.1 hy with hy | hy
    · exact h.near hi y hy
    · exact Nat.le_of_eq (h2 y hy).1
  have hmono : (ws ++ new).Pairwise fun a b => a.2 ≤ b.2 := by
    rw [List.pairwise_append]
    refine ⟨h.mono, ?_, fun a ha b hb => ?_⟩
    · rw [List.pairwise_iff_getElem]
      intro a b h6 h7 _
      rw [(h2 _ (List.getElem_mem h6)).1, (h2 _ (List.getElem_mem h7)).1]
      exact Nat.le_refl _
    · rw [(h2 b hb).1]
      exact h.near hi a ha
  refine ⟨h3, h4, ?_, fun y hy => ?_, hmono, fun hl y hy => ?_, fun y hy x hx => ?_⟩
  · obtain ⟨l, rfl⟩ := h.first; exact ⟨l ++ new, rfl⟩
  · rcases List.mem_append.1 hy with hy | hy
    · exact h.reach y hy
    · rw [(h2 y hy).1]
      exact .succ (h.reach _ hmi) (h2 y hy).2
  · have h6 := pairwise_el hmono (i := i) (j := i + 1) (by omega) hl
    have h7 : el (ws ++ new) i = el ws i := by
      unfold el; rw [List.getD_eq_getElem?_getD, List.getD_eq_getElem?_getD, List.getElem?_append_left hi]
    rw [h7] at h6
    have := hup y hy
    omega
  · rw [List.take_append_of_le_length (by omega), take_succ ws i hi, List.mem_append] at hy
    rcases hy with hy | hy
    · obtain ⟨z, hz, h6, h7⟩ := h.closed y hy x hx
      exact ⟨z, List.mem_append.2 (.inl hz), h6, h7⟩
    · simp only [List.mem_singleton] at hy
      subst hy
      have := h5 x hx
      obtain ⟨z, hz, e⟩ := List.mem_map.1 this
      exact ⟨z, hz, e, hup z hz⟩
theorem Found.start (nx : Word → List Word) (w : Word) : Found nx w 0 [(w, 0)] :=
  ⟨by simp, by simp, ⟨[], rfl⟩, fun y hy => by simp only [List.mem_singleton] at hy; subst hy; exact .zero, by simp, fun _ y hy => by simp only [List.mem_singleton] at hy; subst hy; simp, by simp⟩
/-- What a search has found: each word that is reached, once, with its distance. -/
structure Closed (nx : Word → List Word) (w : Word) (ws : List WN) : Prop where
  nodup : (ws.map (·.1)).Nodup
  len : ws.length ≤ 300
  first : ∃ l, ws = (w, 0) :: l
  reach : ∀ y ∈ ws, ReachN nx w y.2 y.1
  all : ∀ n x, ReachN nx w n x → ∃ z ∈ ws, z.1 = x ∧ z.2 ≤ n
theorem Found.end {nx : Word → List Word} {w : Word} {i : Nat} {ws : List WN} (h : Found nx w i ws) (hi : ws.length ≤ i) : Closed nx w ws := by
  refine ⟨h.nodup, h.len, h.first, h.reach, fun n x hr => ?_⟩
  have ht : ws.take i = ws := List.take_of_length_le hi
  have hc := h.closed
  rw [ht] at hc
  induction hr with
  | zero => obtain ⟨l, rfl⟩ := h.first; exact ⟨(w, 0), by simp, rfl, Nat.le_refl _⟩
  | succ hr hx ih =>
    obtain ⟨z, hz, rfl, h1⟩ := ih
    obtain ⟨y, hy, h2, h3⟩ := hc z hz _ hx
    exact ⟨y, hy, h2, by omega⟩
theorem closeF_spec {nx : Word → List Word} {w : Word} : ∀ (n i : Nat) (ws : List WN), n + i = 301 → i ≤ ws.length + 0 → Found nx w i ws →
    match closeF nx n i ws with
    | some ws' => Closed nx w ws'
    | none => ∃ m : List Word, m.Nodup ∧ m.length = 301 ∧ ∀ x ∈ m, ∃ k, ReachN nx w k x
  | 0, i, ws, hn, hi, h => by
    have := h.len
    simp only [closeF]
    omega
  | n + 1, i, ws, hn, hi, h => by
    rw [closeF]
    by_cases hl : i < ws.length
    · rw [if_pos hl]
      cases ha : addF ((el ws i).2 + 1) ws (nx (el ws i).1) with
      | none =>
        dsimp only
        obtain ⟨m, h1, h2, h3⟩ := addF_none ha h.nodup
        refine ⟨m, h1, h2, fun x hx => ?_⟩
        rcases h3 x hx with e | e
        · obtain ⟨y, hy, rfl⟩ := List.mem_map.1 e
          exact ⟨_, h.reach y hy⟩
        · exact ⟨_, .succ (h.reach _ (el_mem_of ws i hl)) e⟩
      | some ws' =>
        dsimp only
        have hs := h.step hl ha
        obtain ⟨⟨new, e, _⟩, _⟩ := addF_some ha h.nodup h.len
        exact closeF_spec n (i + 1) ws' (by omega) (by rw [e]; simp; omega) hs
    · rw [if_neg hl]
      exact h.end (by omega)
def closeM (nx : Word → List Word) (w : Word) : Option (List WN) := closeF nx 301 0 [(w, 0)]
theorem closeM_some {nx : Word → List Word} {w : Word} {ws : List WN} (h : closeM nx w = some ws) : Closed nx w ws := by
  have := closeF_spec (nx := nx) (w := w) 301 0 [(w, 0)] rfl (by simp) (Found.start nx w)
  unfold closeM at h
  rw [h] at this
  exact this
theorem closeM_none {nx : Word → List Word} {w : Word} (h : closeM nx w = none) : ∃ m : List Word, m.Nodup ∧ m.length = 301 ∧ ∀ x ∈ m, ∃ k, ReachN nx w k x := by
  have := closeF_spec (nx := nx) (w := w) 301 0 [(w, 0)] rfl (by simp) (Found.start nx w)
  unfold closeM at h
  rw [h] at this
  exact this
theorem nodup_le' {α : Type} [DecidableEq α] : ∀ {l m : List α}, l.Nodup → (∀ x ∈ l, x ∈ m) → l.length ≤ m.length
  | [], m, _, _ => by simp
  | x :: l, m, h, hs => by
    rw [List.nodup_cons] at h
    have hx := hs x (by simp)
    have h1 : l.length ≤ (m.erase x).length := nodup_le' h.2 fun y hy => (List.mem_erase_of_ne (fun e => h.1 (by rw [← e]; exact hy))).2 (hs y (by simp [hy]))
    rw [List.length_erase_of_mem hx] at h1
    have : 0 < m.length := List.length_pos_of_mem hx
    simp only [List.length_cons]
    omega
end Go.Proofs.Ytkhddecnllcaiaa
end

section
/- Plain: the keys of words, and a map from words to their places. -/
namespace Go.Proofs.Ytkhddecnllcaiaa
open Go.Abs Go

theorem strOf_data : ∀ ns : List Int, (strOf ns).data.toList = ns.map fun n => UInt8.ofNat n.toNat := by
  have h : ∀ (ns : List Int) (r : ByteArray), (ns.foldl (fun r n => r.push (UInt8.ofNat n.toNat)) r).data.toList = r.data.toList ++ ns.map fun n => UInt8.ofNat n.toNat := by
    intro ns
    induction ns with
    | nil => intro r; simp
    | cons n ns ih =>
      intro r
      rw [List.foldl_cons, ih]
      simp [ByteArray.push]
  intro ns
  unfold strOf
  rw [h]
  simp
/-- The key of a word. -/
def keyS (w : List Int) : ByteArray := strOf (w.map fun x => 48 + x)
@[simp] def keyV (w : List Int) : AV := .raw (.string (keyS w))
theorem ofNat_inj {a b : Nat} (ha : a < 256) (hb : b < 256) (h : UInt8.ofNat a = UInt8.ofNat b) : a = b := by
  have := congrArg UInt8.toNat h
  simp only [UInt8.toNat_ofNat'] at this
  omega
/-- A word of sounds. -/
def fine (w : List Int) : Prop := ∀ x ∈ w, 0 ≤ x ∧ x ≤ 5
theorem keyS_inj : ∀ {a b : List Int}, fine a → fine b → keyS a = keyS b → a = b := by
  intro a b ha hb h
  have h2 := congrArg (fun z : ByteArray => z.data.toList) h
  simp only [keyS, strOf_data, List.map_map] at h2
  clear h
  induction a generalizing b with
  | nil =>
    cases b with
    | nil => rfl
    | cons y b => simp at h2
  | cons x a ih =>
    cases b with
    | nil => simp at h2
    | cons y b =>
      simp only [List.map_cons, List.cons.injEq, Function.comp] at h2
      have hx := ha x (by simp)
      have hy := hb y (by simp)
      have := ofNat_inj (by omega) (by omega) h2.1
      rw [ih (fun z hz => ha z (by simp [hz])) (fun z hz => hb z (by simp [hz])) h2.2]
      congr 1
      omega
/-- The entries of the words' places. -/
def entsF (k : Nat) : List Word → List AV
  | [] => []
  | w :: l => .tup [keyV w, iv k] :: entsF (k + 1) l
theorem entsF_len : ∀ (k : Nat) (l : List Word), (entsF k l).length = l.length
  | k, [] => rfl
  | k, w :: l => by simp [entsF, entsF_len]
theorem entsF_push : ∀ (k : Nat) (l : List Word) (w : Word), entsF k (l ++ [w]) = entsF k l ++ [.tup [keyV w, iv ((k + l.length : Nat) : Int)]]
  | k, [], w => rfl
  | k, x :: l, w => by
    simp only [List.cons_append, entsF, entsF_push (k + 1) l w, List.length_cons]
    rw [show k + 1 + l.length = k + (l.length + 1) by omega]
theorem keysOK_ents : ∀ (k : Nat) (l : List Word), keysOK .str (entsF k l) = true
  | k, [] => rfl
  | k, w :: l => by simp [entsF, keysOK, entK, akey, KK.fits, keysOK_ents]
theorem mfind_none : ∀ {k : Nat} {l : List Word} {w : Word} {j : Nat}, (∀ x ∈ l, fine x) → fine w → w ∉ l → mfind (.str (keyS w)) (entsF k l) j = none
  | k, [], w, j, _, _, _ => rfl
  | k, x :: l, w, j, hl, hw, h => by
    rw [entsF, mfind, if_neg ?_]
    · exact mfind_none (fun y hy => hl y (by simp [hy])) hw fun hm => h (by simp [hm])
    · intro e
      simp only [entK, akey, keyV, Option.some.injEq, Key.str.injEq] at e
      exact h (by simp [keyS_inj (hl x (by simp)) hw e])
theorem mfind_some : ∀ {k : Nat} {l : List Word} {w : Word} {j : Nat}, (∀ x ∈ l, fine x) → w ∈ l → ∃ i, i < l.length ∧ el l i = w ∧ mfind (.str (keyS w)) (entsF k l) j = some (j + i, iv ((k + i : Nat) : Int))
  | k, [], w, j, _, h => by cases h
  | k, x :: l, w, j, hl, h => by
    rw [entsF, mfind]
    by_cases e : x = w
    · subst e
      exact ⟨0, by simp, rfl, by simp [entK, akey, entW]⟩
    · have hm : w ∈ l := by
        rcases List.mem_cons.1 h with e' | h
        · exact absurd e'.symm e
        · exact h
      obtain ⟨i, h1, h2, h3⟩ := mfind_some (k := k + 1) (j := j + 1) (fun y hy => hl y (by simp [hy])) hm
      refine ⟨i + 1, by simp; omega, by simpa [el] using h2, ?_⟩
      rw [if_neg ?_, h3]
      · simp only [Option.some.injEq, Prod.mk.injEq]
        exact ⟨by omega, by rw [show k + 1 + i = k + (i + 1) by omega]⟩
      · intro e2
        simp only [entK, akey, keyV, Option.some.injEq, Key.str.injEq] at e2
        exact e (keyS_inj (hl x (by simp)) (hl w (by simp [hm])) e2)
end Go.Proofs.Ytkhddecnllcaiaa
end

section
/- Contracts: the library's DeleteFunc; grounds without one; the statement OrderGrounds. -/
namespace Go.Proofs.Ytkhddecnllcaiaa
open Go.Abs Go

end Go.Proofs.Ytkhddecnllcaiaa
end

section
/- Functions of the cut as the value layer reads them. (written by gen.py) -/
set_option maxRecDepth 20000
namespace Go.Proofs.Ytkhddecnllcaiaa
open Go.Abs Go

def A100 : ACode :=
  (.seq (.reg [] [⟨some 2, (.assign (.const (.bool false))), 4, none⟩])
    (.seq (.reg [] [⟨some 3, (.move (.tmp 0)), 3, none⟩,
      ⟨some 4, (.call ⟨(.value (.func 71)), #[(.tmp 3), (.const (.int .i64 0)), (.const (.int .i64 1000))], #[3, 3, 3]⟩), 4, none⟩,
      ⟨some 5, (.unOp .not 4 (.tmp 4)), 4, none⟩,
      ⟨some 2, (.assign (.tmp 5)), 4, none⟩])
    .ret))
theorem C100 {args : List AV} {r : AV} (hn : args.length ≤ 6) (h : vc Try.prog T [] A100 (Fin T [(.tmp 2)] r) ⟨envOf 0 args, []⟩) : CallP Try.prog 100 args r :=
  callP_of tok mixed Try.func100 (by kernel_rfl) (by kernel_rfl) (by kernel_rfl : Try.f100.ntmps = 6) (by kernel_rfl : Try.f100.body.bind (strip 6 (fun _ => [])) = some A100) hn h

end Go.Proofs.Ytkhddecnllcaiaa
end

section
/- Plain: weights that hold bound derivations; the smallest weights are small. -/
namespace Go.Proofs.Ytkhddecnllcaiaa
open Go.Abs Go

/-- The weight of sounds. -/
def weighM (o : List Int) : List Int → Int
  | [] => 0
  | x :: w => el o x.toNat + weighM o w
/-- One round over rules: none where one puts in; else the weights, and whether some grew. -/
def passM : List Rule → List Int × Bool → Option (List Int × Bool)
  | [], a => some a
  | r :: s, (o, b) => if r.frm < 0 then none else if el o r.frm.toNat < weighM o r.to + 1 then passM s (o.set r.frm.toNat (weighM o r.to + 1), true) else passM s (o, b)
/-- At most n rounds: none if they still grow in the last one. -/
def roundsM (s : List Rule) : Nat → List Int → Option (List Int)
  | 0, _ => none
  | n + 1, o => match passM s (o, false) with
    | none => none
    | some (o', g) => if g then roundsM s n o' else some o'

theorem el_set (o : List Int) (i k : Nat) (v : Int) (hi : i < o.length) : el (o.set i v) k = if i = k then v else el o k := by
  unfold el
  rw [List.getD_eq_getElem?_getD, List.getD_eq_getElem?_getD, List.getElem?_set]
  by_cases h : i = k
  · subst h; simp [hi]
  · simp [h]
theorem weighM_append (o : List Int) : ∀ a b : List Int, weighM o (a ++ b) = weighM o a + weighM o b
  | [], b => by simp [weighM]
  | x :: a, b => by simp only [List.cons_append, weighM, weighM_append o a b]; omega
theorem weighM_mono {o o' : List Int} (h : ∀ k, el o k ≤ el o' k) : ∀ w : List Int, weighM o w ≤ weighM o' w
  | [] => by simp [weighM]
  | x :: w => by
    have := h x.toNat
    have := weighM_mono h w
    simp only [weighM]; omega
theorem weighM_nonneg {o : List Int} (h : ∀ k, 0 ≤ el o k) : ∀ w : List Int, 0 ≤ weighM o w
  | [] => by simp [weighM]
  | x :: w => by
    have := h x.toNat
    have := weighM_nonneg h w
    simp only [weighM]; omega
theorem weighM_le {o : List Int} {M : Int} (h : ∀ k, el o k ≤ M) (hM : 0 ≤ M) : ∀ w : List Int, weighM o w ≤ M * w.length
  | [] => by simp [weighM]
  | x :: w => by
    have := h x.toNat
    have := weighM_le h hM w
    simp only [weighM, List.length_cons, Int.natCast_add, Int.natCast_one, Int.mul_add, Int.mul_one]; omega

structure Kept (s : List Rule) (o : List Int) : Prop where
  len : o.length = 6
  pos : ∀ k, 0 ≤ el o k
  sup : ∀ k, el o k = 0 ∨ ∃ r ∈ s, r.frm = k ∧ el o k ≤ weighM o r.to + 1
theorem Kept.put {s : List Rule} {o : List Int} (h : Kept s o) {r : Rule} (hr : r ∈ s) (h0 : 0 ≤ r.frm) (h5 : r.frm ≤ 5) (hlt : el o r.frm.toNat < weighM o r.to + 1) :
    Kept s (o.set r.frm.toNat (weighM o r.to + 1)) := by
  have hi : r.frm.toNat < o.length := by rw [h.len]; omega
  have hle : ∀ k, el o k ≤ el (o.set r.frm.toNat (weighM o r.to + 1)) k := by
    intro k
    rw [el_set _ _ _ _ hi]
    split
    · rename_i e; subst e; omega
    · exact Int.le_refl _
  refine ⟨by rw [List.length_set]; exact h.len, fun k => Int.le_trans (h.pos k) (hle k), fun k => ?_⟩
  by_cases e : r.frm.toNat = k
  · refine .inr ⟨r, hr, by omega, ?_⟩
    rw [el_set _ _ _ _ hi, if_pos e]
    have := weighM_mono hle r.to
    omega
  · rw [el_set _ _ _ _ hi, if_neg e]
    rcases h.sup k with h1 | ⟨q, hq, h2, h3⟩
    · exact .inl h1
    · have := weighM_mono hle q.to
      exact .inr ⟨q, hq, h2, by omega⟩
theorem passM_kept {s : List Rule} (hv : ∀ r ∈ s, r.frm ≤ 5) : ∀ (l : List Rule), (∀ r ∈ l, r ∈ s) → ∀ (o : List Int) (b : Bool) (o' : List Int) (b' : Bool), Kept s o → passM l (o, b) = some (o', b') →
    Kept s o' ∧ (b' = false → o' = o ∧ b = false ∧ ∀ r ∈ l, 0 ≤ r.frm ∧ weighM o r.to + 1 ≤ el o r.frm.toNat)
  | [], _, o, b, o', b', hk, he => by
    simp only [passM, Option.some.injEq, Prod.mk.injEq] at he
    obtain ⟨rfl, rfl⟩ := he
    exact ⟨hk, fun hb => ⟨rfl, hb, by simp⟩⟩
  | r :: l, hl, o, b, o', b', hk, he => by
    rw [passM] at he
    split at he
    · cases he
    · rename_i h0
      split at he
      · rename_i h1
        have hk' := hk.put (hl r (by simp)) (by omega) (hv r (hl r (by simp))) h1
        obtain ⟨k1, k2⟩ := passM_kept hv l (fun x hx => hl x (by simp [hx])) _ _ _ _ hk' he
        refine ⟨k1, fun hb => ?_⟩
        have := (k2 hb).2.1
        cases this
      · rename_i h1
        obtain ⟨k1, k2⟩ := passM_kept hv l (fun x hx => hl x (by simp [hx])) _ _ _ _ hk he
        refine ⟨k1, fun hb => ?_⟩
        obtain ⟨e1, e2, e3⟩ := k2 hb
        refine ⟨e1, e2, fun x hx => ?_⟩
        rcases List.mem_cons.1 hx with rfl | hx
        · exact ⟨by omega, by omega⟩
        · exact e3 x hx
theorem roundsM_kept {s : List Rule} (hv : ∀ r ∈ s, r.frm ≤ 5) : ∀ (n : Nat) (o o' : List Int), Kept s o → roundsM s n o = some o' →
    Kept s o' ∧ ∀ r ∈ s, 0 ≤ r.frm ∧ weighM o' r.to + 1 ≤ el o' r.frm.toNat
  | 0, o, o', _, he => by cases he
  | n + 1, o, o', hk, he => by
    rw [roundsM] at he
    cases hp : passM s (o, false) with
    | none => rw [hp] at he; cases he
    | some p =>
      obtain ⟨q, g⟩ := p
      rw [hp] at he
      obtain ⟨k1, k2⟩ := passM_kept hv s (fun _ h => h) _ _ _ _ hk hp
      dsimp only at he
      cases g with
      | true => exact roundsM_kept hv n _ _ k1 (by simpa using he)
      | false =>
        simp only [Bool.false_eq_true, if_false, Option.some.injEq] at he
        subst he
        obtain ⟨e1, _, e3⟩ := k2 rfl
        subst e1
        exact ⟨k1, e3⟩
theorem kept_zero (s : List Rule) : Kept s [0, 0, 0, 0, 0, 0] := by
  have h0 : ∀ k, el ([0, 0, 0, 0, 0, 0] : List Int) k = 0 := by
    intro k
    match k with
    | 0 => rfl
    | 1 => rfl
    | 2 => rfl
    | 3 => rfl
    | 4 => rfl
    | 5 => rfl
    | k + 6 => rfl
  exact ⟨rfl, fun k => by rw [h0 k]; exact Int.le_refl _, fun k => .inl (h0 k)⟩

/-- How many weights are below one. -/
def under (o : List Int) (v : Int) : Nat := o.countP fun x => decide (x < v)
theorem under_mono {a b : Int} (h : a ≤ b) (o : List Int) : under o a ≤ under o b :=
  List.countP_mono_left fun x _ hx => by simp only [decide_eq_true_eq] at hx ⊢; omega
theorem under_lt {a b : Int} (h : a < b) : ∀ o : List Int, a ∈ o → under o a + 1 ≤ under o b
  | [], hm => by cases hm
  | x :: o, hm => by
    simp only [under, List.countP_cons]
    have hmono := under_mono (Int.le_of_lt h) o
    simp only [under] at hmono
    rcases List.mem_cons.1 hm with rfl | hm
    · have h1 : ¬ a < a := by omega
      simp only [h1, h, decide_false, decide_true, if_true, Bool.false_eq_true, if_false]
      omega
    · have ih := under_lt h o hm
      simp only [under] at ih
      by_cases h1 : x < a
      · have h2 : x < b := by omega
        simp only [h1, h2, decide_true, if_true]
        omega
      · simp only [h1, decide_false, Bool.false_eq_true, if_false]
        omega
theorem under_len {v : Int} : ∀ o : List Int, v ∈ o → under o v + 1 ≤ o.length
  | [], hm => by cases hm
  | x :: o, hm => by
    simp only [under, List.countP_cons, List.length_cons]
    rcases List.mem_cons.1 hm with rfl | hm
    · have h1 : ¬ v < v := by omega
      have := List.countP_le_length (p := fun x => decide (x < v)) (l := o)
      simp only [h1, decide_false, Bool.false_eq_true, if_false]
      omega
    · have ih := under_len o hm
      simp only [under] at ih
      by_cases h1 : x < v <;> simp [h1] <;> omega
theorem el_mem (o : List Int) (k : Nat) (h : k < o.length) : el o k ∈ o := by rw [el_eq o k h]; exact List.getElem_mem h
theorem el_out (o : List Int) (k : Nat) (h : o.length ≤ k) : el o k = 0 := by
  unfold el
  rw [List.getD_eq_getElem?_getD, List.getElem?_eq_none h]; rfl
theorem small_weights {s : List Rule} {o : List Int} (hk : Kept s o) (hh : ∀ r ∈ s, 0 ≤ r.frm ∧ weighM o r.to + 1 ≤ el o r.frm.toNat) (hto : ∀ r ∈ s, r.to.length ≤ 2) :
    ∀ (n : Nat) (k : Nat), el o k ≤ n → el o k + 1 ≤ (2 ^ (under o (el o k) + 1) : Nat)
  | 0, k, h => by
    have := hk.pos k
    have e : el o k = 0 := by omega
    rw [e]
    have := Nat.one_le_two_pow (n := under o 0 + 1)
    omega
  | n + 1, k, h => by
    rcases hk.sup k with e | ⟨r, hr, hf, hle⟩
    · rw [e]
      have := Nat.one_le_two_pow (n := under o 0 + 1)
      omega
    · have h1 := (hh r hr).2
      have h2 : r.frm.toNat = k := by omega
      rw [h2] at h1
      have hv : el o k = weighM o r.to + 1 := by omega
      have hmem : ∀ x : Nat, el o x < el o k → el o x + 1 ≤ (2 ^ (under o (el o k)) : Nat) := by
        intro x hx
        by_cases hxl : x < o.length
        · have ih := small_weights hk hh hto n x (by omega)
          have hu := under_lt hx o (el_mem o x hxl)
          have := Nat.pow_le_pow_right (n := 2) (by omega) hu
          omega
        · rw [el_out o x (by omega)]
          have := Nat.one_le_two_pow (n := under o (el o k))
          omega
      have hp : (2 ^ (under o (el o k) + 1) : Nat) = 2 ^ under o (el o k) + 2 ^ under o (el o k) := by rw [Nat.pow_succ]; omega
      have h1p := Nat.one_le_two_pow (n := under o (el o k))
      have hl := hto r hr
      match hto' : r.to, hl with
      | [], _ =>
        rw [hto'] at hv
        simp only [weighM] at hv
        omega
      | [x], _ =>
        rw [hto'] at hv
        simp only [weighM] at hv
        have := hmem x.toNat (by omega)
        omega
      | [x, y], _ =>
        rw [hto'] at hv
        simp only [weighM] at hv
        have p1 := hk.pos x.toNat
        have p2 := hk.pos y.toNat
        have := hmem x.toNat (by omega)
        have := hmem y.toNat (by omega)
        omega
      | _ :: _ :: _ :: _, hl => exact absurd hl (by simp)
theorem weights_bound {s : List Rule} {o : List Int} (hk : Kept s o) (hh : ∀ r ∈ s, 0 ≤ r.frm ∧ weighM o r.to + 1 ≤ el o r.frm.toNat) (hto : ∀ r ∈ s, r.to.length ≤ 2) (k : Nat) : el o k ≤ 63 := by
  by_cases h : k < o.length
  · have h1 := small_weights hk hh hto (el o k).toNat k (by have := hk.pos k; omega)
    have h2 := under_len o (el_mem o k h)
    rw [hk.len] at h2
    have h3 := Nat.pow_le_pow_right (n := 2) (by omega) h2
    have : (2 : Nat) ^ 6 = 64 := rfl
    omega
  · rw [el_out o k (by omega)]; decide

/-! ### each step makes the word lighter -/
theorem applyM_zero {r : Rule} {w : List Int} {p : Int} (h : (applyM r w p).2 = 0) : wordedErr r w = 0 ∧ placeB r w p = true ∧ (applyM r w p).1 = putW r w p.toNat := by
  unfold applyM at h ⊢
  by_cases h1 : wordedErr r w = 0
  · by_cases h2 : placeB r w p = false
    · simp [h1, h2] at h
    · by_cases h3 : 8 < (putW r w p.toNat).length
      · simp [h1, h2, h3] at h
      · simp only [Bool.not_eq_false] at h2
        simp [h1, h2, h3]
  · simp [h1] at h
theorem movesR_mem {r : Rule} {w : List Int} {k : Nat} : ∀ (n i : Nat), ∀ m ∈ movesR r w k i n, m.step.rule = k ∧ (applyM r w m.step.place).2 = 0
  | 0, i, m, h => by simp [movesR] at h
  | n + 1, i, m, h => by
    rw [movesR] at h
    rcases List.mem_append.1 h with h | h
    · unfold moveAt at h
      split at h
      · rename_i h0
        simp only [List.mem_singleton] at h
        subst h
        exact ⟨rfl, h0⟩
      · cases h
    · exact movesR_mem n (i + 1) m h
theorem movesF_mem {w : List Int} : ∀ (s : List Rule) (k : Nat), ∀ m ∈ movesF w k s, ∃ i, i < s.length ∧ m.step.rule = ((k + i : Nat) : Int) ∧ (applyM (el s i) w m.step.place).2 = 0
  | [], k, m, h => by simp [movesF] at h
  | r :: s, k, m, h => by
    rw [movesF] at h
    rcases List.mem_append.1 h with h | h
    · obtain ⟨h1, h2⟩ := movesR_mem _ _ m h
      exact ⟨0, by simp, h1, h2⟩
    · obtain ⟨i, h1, h2, h3⟩ := movesF_mem s (k + 1) m h
      exact ⟨i + 1, by simp; omega, by rw [h2]; congr 1; omega, h3⟩
theorem stepsM_apply {s : List Rule} {w : List Int} {x : Step} (h : x ∈ stepsM s w) : ∃ i, i < s.length ∧ x.rule = (i : Int) ∧ (applyM (el s i) w x.place).2 = 0 := by
  unfold stepsM at h
  split at h
  · cases h
  · obtain ⟨m, hm, rfl⟩ := List.mem_map.1 h
    obtain ⟨i, h1, h2, h3⟩ := movesF_mem s 0 m hm
    exact ⟨i, h1, by rw [h2]; congr 1; omega, h3⟩
theorem choiceM_mem {s : List Rule} {w gs : List Int} {c : Choice} (h : choiceM s w gs = some c) : (⟨c.rule, c.place⟩ : Step) ∈ stepsM s w := by
  unfold choiceM at h
  generalize stepsM s w = l at h
  match l with
  | [] => simp at h
  | x :: xs =>
    dsimp only at h
    cases hb : bestM s w gs (x :: xs) with
    | none =>
      rw [hb] at h
      simp only [Option.some.injEq] at h
      subst h
      show el (x :: xs) xs.length ∈ _
      rw [el_eq _ _ (by simp)]; exact List.getElem_mem _
    | some a =>
      rw [hb] at h
      simp only [Option.some.injEq] at h
      subst h
      exact List.mem_of_find?_eq_some hb
/-- Weights that hold for a system. -/
def holdsM (s : List Rule) (o : List Int) : Prop := ∀ r ∈ s, 0 ≤ r.frm ∧ weighM o r.to + 1 ≤ el o r.frm.toNat
theorem put_lighter {r : Rule} {w o : List Int} {p : Int} (h0 : 0 ≤ r.frm) (hw : weighM o r.to + 1 ≤ el o r.frm.toNat) (hp : placeB r w p = true) : weighM o (putW r w p.toNat) + 1 ≤ weighM o w := by
  unfold placeB at hp
  simp only [Bool.and_eq_true, decide_eq_true_eq] at hp
  obtain ⟨h1, h2, h3⟩ := hp
  have hl : long r = 1 := by unfold long; rw [if_neg (by omega)]
  rw [hl] at h2
  have hlt : p.toNat < w.length := by omega
  unfold isAt at h3
  simp only [Bool.and_eq_true, Bool.or_eq_true, decide_eq_true_eq] at h3
  have hf : el w p.toNat = r.frm := by
    rcases h3.1.1 with e | e
    · omega
    · exact e
  have hwd : w = w.take p.toNat ++ (el w p.toNat :: w.drop (p.toNat + 1)) := by rw [← drop_cons w _ hlt, List.take_append_drop]
  have e1 : weighM o w = weighM o (w.take p.toNat) + (el o r.frm.toNat + weighM o (w.drop (p.toNat + 1))) := by
    conv => lhs; rw [hwd]
    rw [weighM_append, weighM, hf]
  have e2 : weighM o (putW r w p.toNat) = weighM o (w.take p.toNat) + weighM o r.to + weighM o (w.drop (p.toNat + 1)) := by
    unfold putW
    rw [hl, weighM_append, weighM_append]; rfl
  omega
theorem lighter {s : List Rule} {w gs o : List Int} {c : Choice} (ho : holdsM s o) (h : choiceM s w gs = some c) : weighM o (nextW s w c) + 1 ≤ weighM o w := by
  obtain ⟨i, h1, h2, h3⟩ := stepsM_apply (choiceM_mem h)
  dsimp only at h2 h3
  have hm := ho (el s i) (by rw [el_eq s i h1]; exact List.getElem_mem h1)
  obtain ⟨_, h4, h5⟩ := applyM_zero h3
  unfold nextW
  have e : c.rule.toNat = i := by omega
  rw [e, h5]
  exact put_lighter hm.1 hm.2 h4
end Go.Proofs.Ytkhddecnllcaiaa
end

section
/- Plain: raising weights in seven rounds, or as long as they are small: the same. -/
namespace Go.Proofs.Ytkhddecnllcaiaa
open Go.Abs Go

def leW (o o' : List Int) : Prop := ∀ k, el o k ≤ el o' k
theorem leW.trans {a b c : List Int} (h : leW a b) (k : leW b c) : leW a c := fun i => Int.le_trans (h i) (k i)
theorem leW.refl (a : List Int) : leW a a := fun _ => Int.le_refl _
theorem set_le {o : List Int} {k : Nat} {v : Int} (hk : k < o.length) (h : el o k ≤ v) : leW o (o.set k v) := by
  intro i
  rw [el_set _ _ _ _ hk]
  split
  · rename_i e; subst e; exact h
  · exact Int.le_refl _
theorem passM_len : ∀ (l : List Rule) (o : List Int) (b : Bool) (o' : List Int) (b' : Bool), passM l (o, b) = some (o', b') → o'.length = o.length
  | [], o, b, o', b', h => by simp only [passM, Option.some.injEq, Prod.mk.injEq] at h; rw [h.1]
  | r :: l, o, b, o', b', h => by
    rw [passM] at h
    split at h
    · cases h
    · split at h
      · have := passM_len l _ _ _ _ h; rw [this, List.length_set]
      · exact passM_len l _ _ _ _ h
theorem passM_le {l : List Rule} : ∀ {o : List Int} {b : Bool} {o' : List Int} {b' : Bool}, o.length = 6 → (∀ r ∈ l, r.frm ≤ 5) → passM l (o, b) = some (o', b') → leW o o' := by
  induction l with
  | nil => intro o b o' b' _ _ h; simp only [passM, Option.some.injEq, Prod.mk.injEq] at h; rw [h.1]; exact leW.refl _
  | cons r l ih =>
    intro o b o' b' hl hv h
    have hr := hv r (by simp)
    rw [passM] at h
    split at h
    · cases h
    · split at h
      · rename_i h1
        exact (set_le (by omega) (Int.le_of_lt h1)).trans (ih (by rw [List.length_set]; exact hl) (fun x hx => hv x (by simp [hx])) h)
      · exact ih hl (fun x hx => hv x (by simp [hx])) h
/-- Behind a round each rule has been heeded. -/
theorem passM_heeds {l : List Rule} : ∀ {o : List Int} {b : Bool} {o' : List Int} {b' : Bool}, o.length = 6 → (∀ r ∈ l, r.frm ≤ 5) → passM l (o, b) = some (o', b') →
    ∀ r ∈ l, 0 ≤ r.frm ∧ ∃ q, leW o q ∧ leW q o' ∧ weighM q r.to + 1 ≤ el o' r.frm.toNat := by
  induction l with
  | nil => intro o b o' b' _ _ _ r hr; cases hr
  | cons a l ih =>
    intro o b o' b' hl hv h r hr
    have ha := hv a (by simp)
    have hle := passM_le hl hv h
    rw [passM] at h
    split at h
    · cases h
    · rename_i h0
      split at h
      · rename_i h1
        have hst := set_le (o := o) (k := a.frm.toNat) (v := weighM o a.to + 1) (by omega) (Int.le_of_lt h1)
        have hl' : (o.set a.frm.toNat (weighM o a.to + 1)).length = 6 := by rw [List.length_set]; exact hl
        have hrest := passM_le hl' (fun x hx => hv x (by simp [hx])) h
        rcases List.mem_cons.1 hr with rfl | hr
        · refine ⟨by omega, o, leW.refl _, hle, ?_⟩
          have := hrest r.frm.toNat
          rw [el_set _ _ _ _ (by omega), if_pos rfl] at this
          exact this
        · obtain ⟨i1, q, i2, i3, i4⟩ := ih hl' (fun x hx => hv x (by simp [hx])) h r hr
          exact ⟨i1, q, hst.trans i2, i3, i4⟩
      · rename_i h1
        rcases List.mem_cons.1 hr with rfl | hr
        · refine ⟨by omega, o, leW.refl _, hle, ?_⟩
          have := hle r.frm.toNat
          omega
        · exact ih hl (fun x hx => hv x (by simp [hx])) h r hr
/-- What grows does so by a rule. -/
theorem passM_grows {l : List Rule} : ∀ {o : List Int} {b : Bool} {o' : List Int} {b' : Bool}, o.length = 6 → (∀ r ∈ l, r.frm ≤ 5) → passM l (o, b) = some (o', b') →
    ∀ x, el o x < el o' x → ∃ r ∈ l, r.frm = x ∧ ∃ p, leW o p ∧ leW p o' ∧ el p x < weighM p r.to + 1 := by
  induction l with
  | nil => intro o b o' b' _ _ h x hx; simp only [passM, Option.some.injEq, Prod.mk.injEq] at h; rw [h.1] at hx; omega
  | cons a l ih =>
    intro o b o' b' hl hv h x hx
    have ha := hv a (by simp)
    have hle := passM_le hl hv h
    rw [passM] at h
    split at h
    · cases h
    · rename_i h0
      split at h
      · rename_i h1
        have hst := set_le (o := o) (k := a.frm.toNat) (v := weighM o a.to + 1) (by omega) (Int.le_of_lt h1)
        have hl' : (o.set a.frm.toNat (weighM o a.to + 1)).length = 6 := by rw [List.length_set]; exact hl
        by_cases hxa : a.frm.toNat = x
        · subst hxa
          exact ⟨a, by simp, by omega, o, leW.refl _, hle, h1⟩
        · have e : el (o.set a.frm.toNat (weighM o a.to + 1)) x = el o x := by rw [el_set _ _ _ _ (by omega), if_neg hxa]
          obtain ⟨r, i1, i2, p, i3, i4, i5⟩ := ih hl' (fun x hx => hv x (by simp [hx])) h x (by rw [e]; exact hx)
          exact ⟨r, by simp [i1], i2, p, hst.trans i3, i4, i5⟩
      · obtain ⟨r, i1, i2, p, i3, i4, i5⟩ := ih hl (fun x hx => hv x (by simp [hx])) h x hx
        exact ⟨r, by simp [i1], i2, p, i3, i4, i5⟩
/-- The mark of growing means that something grows. -/
theorem passM_mark {l : List Rule} : ∀ {o : List Int} {b : Bool} {o' : List Int}, o.length = 6 → (∀ r ∈ l, r.frm ≤ 5) → passM l (o, b) = some (o', true) → b = true ∨ ∃ x, el o x < el o' x := by
  induction l with
  | nil => intro o b o' _ _ h; simp only [passM, Option.some.injEq, Prod.mk.injEq] at h; exact .inl h.2
  | cons a l ih =>
    intro o b o' hl hv h
    have ha := hv a (by simp)
    rw [passM] at h
    split at h
    · cases h
    · split at h
      · rename_i h0 h1
        have hl' : (o.set a.frm.toNat (weighM o a.to + 1)).length = 6 := by rw [List.length_set]; exact hl
        have hrest := passM_le hl' (fun x hx => hv x (by simp [hx])) h a.frm.toNat
        rw [el_set _ _ _ _ (by omega), if_pos rfl] at hrest
        exact .inr ⟨a.frm.toNat, by omega⟩
      · exact ih hl (fun x hx => hv x (by simp [hx])) h
theorem weighM_lt {q p : List Int} : ∀ {w : List Int}, weighM q w < weighM p w → ∃ y ∈ w, el q y.toNat < el p y.toNat
  | [], h => by simp [weighM] at h
  | x :: w, h => by
    by_cases hx : el q x.toNat < el p x.toNat
    · exact ⟨x, by simp, hx⟩
    · simp only [weighM] at h
      obtain ⟨y, hy, h2⟩ := weighM_lt (w := w) (q := q) (p := p) (by omega)
      exact ⟨y, by simp [hy], h2⟩
theorem weighM_part {o : List Int} (hp : ∀ k, 0 ≤ el o k) : ∀ {w : List Int} {y : Int}, y ∈ w → el o y.toNat ≤ weighM o w
  | x :: w, y, h => by
    have h1 := weighM_nonneg hp w
    have h2 := hp x.toNat
    simp only [weighM]
    rcases List.mem_cons.1 h with rfl | h
    · omega
    · have := weighM_part hp h; omega
/-- What grows in a round lies above what grew in the round before, or in this one. -/
theorem grow_chain {s : List Rule} {O o0 o1 o2 : List Int} {b0 b1 b2 b3 : Bool} (hv : ∀ r ∈ s, r.frm ≤ 5) (hO : holdsM s O) (hp : ∀ k, 0 ≤ el O k) (hl : o0.length = 6) (h1 : passM s (o0, b0) = some (o1, b1)) (h2 : passM s (o1, b2) = some (o2, b3))
    (x : Nat) (hx : el o1 x < el o2 x) : ∃ y : Nat, el O y < el O x ∧ (el o0 y < el o1 y ∨ el o1 y < el o2 y) := by
  have hl1 : o1.length = 6 := by rw [passM_len _ _ _ _ _ h1]; exact hl
  obtain ⟨r, hr, hf, p, p1, p2, p3⟩ := passM_grows hl1 hv h2 x hx
  obtain ⟨hr0, q, q1, q2, q3⟩ := passM_heeds hl hv h1 r hr
  have hfx : r.frm.toNat = x := by omega
  rw [hfx] at q3
  have := p1 x
  obtain ⟨y, hy, hlt⟩ := weighM_lt (q := q) (p := p) (w := r.to) (by omega)
  refine ⟨y.toNat, ?_, ?_⟩
  · have h3 := (hO r hr).2
    have h4 := weighM_part hp hy
    rw [hfx] at h3
    omega
  · have a1 := q1 y.toNat
    have a2 := q2 y.toNat
    have a3 := p1 y.toNat
    have a4 := p2 y.toNat
    omega
theorem grow_in {o o' : List Int} (h : o.length = 6) (h' : o'.length = 6) {y : Nat} (hg : el o y < el o' y) : y < 6 := by
  apply Classical.byContradiction
  intro hy
  rw [el_out o y (by omega), el_out o' y (by omega)] at hg
  omega
theorem grow_deep {s : List Rule} {O o0 o1 o2 : List Int} {b0 b1 b2 b3 : Bool} (hv : ∀ r ∈ s, r.frm ≤ 5) (hO : holdsM s O) (hp : ∀ k, 0 ≤ el O k) (hOl : O.length = 6) (hl : o0.length = 6) (h1 : passM s (o0, b0) = some (o1, b1)) (h2 : passM s (o1, b2) = some (o2, b3))
    {k : Nat} (hC : ∀ y, el o0 y < el o1 y → k ≤ under O (el O y) + 1) : ∀ (n x : Nat), el O x ≤ n → el o1 x < el o2 x → k + 1 ≤ under O (el O x) + 1 := by
  have hl1 : o1.length = 6 := by rw [passM_len _ _ _ _ _ h1]; exact hl
  have hl2 : o2.length = 6 := by rw [passM_len _ _ _ _ _ h2]; exact hl1
  intro n
  induction n with
  | zero =>
    intro x hn hx
    obtain ⟨y, hy, _⟩ := grow_chain hv hO hp hl h1 h2 x hx
    have := hp y
    omega
  | succ n ih =>
    intro x hn hx
    obtain ⟨y, hy, hg⟩ := grow_chain hv hO hp hl h1 h2 x hx
    have hy6 : y < 6 := by
      rcases hg with hg | hg
      · exact grow_in hl hl1 hg
      · exact grow_in hl1 hl2 hg
    have hu := under_lt hy O (el_mem O y (by omega))
    rcases hg with hg | hg
    · have := hC y hg
      omega
    · have := ih y (by omega) hg
      omega
theorem passM_some {s : List Rule} : (∀ r ∈ s, 0 ≤ r.frm) → ∀ a : List Int × Bool, ∃ b, passM s a = some b := by
  induction s with
  | nil => intro _ a; exact ⟨a, rfl⟩
  | cons r s ih =>
    intro h a
    obtain ⟨o, b⟩ := a
    rw [passM]
    have := h r (by simp)
    rw [if_neg (by omega)]
    split
    · exact ih (fun x hx => h x (by simp [hx])) _
    · exact ih (fun x hx => h x (by simp [hx])) _
/-- Where weights hold, seven rounds are enough. -/
theorem roundsM_stops {s : List Rule} {O : List Int} (hv : ∀ r ∈ s, r.frm ≤ 5) (h0 : ∀ r ∈ s, 0 ≤ r.frm) (hO : holdsM s O) (hp : ∀ k, 0 ≤ el O k) (hOl : O.length = 6) : ∀ (n k : Nat) (o0 o1 : List Int) (b0 b1 : Bool), n + k = 7 → o0.length = 6 → passM s (o0, b0) = some (o1, b1) →
    (∃ x, el o0 x < el o1 x) → (∀ y, el o0 y < el o1 y → k ≤ under O (el O y) + 1) → ∃ o, roundsM s n o1 = some o
  | 0, k, o0, o1, b0, b1, hn, hl, h1, ⟨x, hx⟩, hC => by
    have hl1 : o1.length = 6 := by rw [passM_len _ _ _ _ _ h1]; exact hl
    have hx6 := grow_in hl hl1 hx
    have h2 := hC x hx
    have h3 := under_len O (el_mem O x (by omega))
    omega
  | n + 1, k, o0, o1, b0, b1, hn, hl, h1, _, hC => by
    have hl1 : o1.length = 6 := by rw [passM_len _ _ _ _ _ h1]; exact hl
    obtain ⟨⟨o2, g⟩, h2⟩ := passM_some h0 (o1, false)
    rw [roundsM, h2]
    dsimp only
    cases g with
    | false => exact ⟨o2, rfl⟩
    | true =>
      simp only [if_true]
      rcases passM_mark hl1 hv h2 with e | hgr
      · cases e
      · exact roundsM_stops hv h0 hO hp hOl n (k + 1) o1 o2 _ _ (by omega) hl1 h2 hgr fun y hy => grow_deep hv hO hp hOl hl h1 h2 hC (el O y).toNat y (by have := hp y; omega) hy
end Go.Proofs.Ytkhddecnllcaiaa
end

section
/- Contracts: weights, and the statement OrderWeighs. -/
namespace Go.Proofs.Ytkhddecnllcaiaa
open Go.Abs Go
set_option maxRecDepth 20000
set_option maxHeartbeats 2000000
attribute [local irreducible] PreK CondK CallK CallG CallX LoopK
attribute [local simp] avsEq avEq akind teq vkind vEq

theorem weigh_c (o w : List Int) (ho : o.length = 6) (hl : w.length ≤ 1000) (hw : ∀ x ∈ w, 0 ≤ x ∧ x ≤ 5) (h0 : ∀ k, 0 ≤ el o k) (hb : weighM o w ≤ 1000000000000000) : CallP Try.prog 65 [ints o, ints w] (iv (weighM o w)) := by
  refine C65 (by simp) ?_
  generalize hR : weighM o w = R at hb
  simp [A65]
  refine LoopK.by (ι := Nat × Int) (fun i => ⟨[(10, iv i.1), (9, iv w.length), (8, ints w), (5, iv i.2), (0, ints o)], []⟩) (fun i => w.length - i.1) (fun i => i.1 ≤ w.length ∧ 0 ≤ i.2 ∧ i.2 + weighM o (w.drop i.1) = R) (0, 0) (by simpa using hR) (by simp) ?_
  intro ⟨i, n⟩ Q' ⟨hi, hn, hc⟩ hq he hr
  dsimp only at hi hn hc
  try simp 
  refine CondK.intro (fun h1 => ?_) (fun h1 => ?_)
  · simp at h1
    have hx := hw (el w i) (el_mem w i h1)
    rw [drop_cons w i h1, weighM] at hc
    have h2 := weighM_nonneg h0 (w.drop (i + 1))
    have h3 := h0 (el w i).toNat
    have h4 : (el w i).toNat < o.length := by omega
    simp [h1]
    refine PreK.intro (by first | omega | (intros; first | omega | (refine ⟨by omega, ?_⟩; simp_all; done) | (simp_all; done) | (simp_all; omega))) fun _ => ?_
    try simp 
    have h5 : (0 : Int) ≤ el w i := hx.1
    simp [h4, h5]
    refine PreK.intro (by first | omega | (intros; first | omega | (refine ⟨by omega, ?_⟩; simp_all; done) | (simp_all; done) | (simp_all; omega))) fun _ => ?_
    try simp 
    refine PreK.intro (by first | omega | (intros; first | omega | (refine ⟨by omega, ?_⟩; simp_all; done) | (simp_all; done) | (simp_all; omega))) fun _ => ?_
    try simp 
    refine hq (i + 1, n + el o (el w i).toNat) _ ⟨by dsimp only; omega, by dsimp only; omega, by dsimp only; omega⟩ (by dsimp only; omega) (by simp)
  · simp at h1
    rw [List.drop_eq_nil_of_le (by omega), weighM] at hc
    try simp 
    apply he
    simp [← hc]
def areW (o : List Int) : Bool := decide (o.length = 6) && !o.any fun n => !(decide (0 ≤ n) && decide (n ≤ 1000))
theorem fwithin_c (n lo hi : Int) : CallP Try.prog 71 [iv n, iv lo, iv hi] (bv (decide (lo ≤ n) && decide (n ≤ hi))) := by
  refine C71 (by simp) ?_
  simp [A71]
theorem notWeight_c (n : Int) : CallP Try.prog 100 [iv n] (bv (!(decide (0 ≤ n) && decide (n ≤ 1000)))) := by
  refine C100 (by simp) ?_
  simp [A100]
  try simp 
  repeat' (first
    | (refine CallX.pure (fwithin_c n 0 1000) (by simp) (by simp) ?_; try simp )
    | (refine CallK.intro (fwithin_c n 0 1000) (by simp) (by simp) ?_; try simp )
    | (refine CallG.intro (fun _ => fwithin_c n 0 1000) (by simp) (by simp) ?_; try simp )
    | ((with_reducible refine PreK.intro ?_ ?_); (next => (first | omega | (intros; first | omega | (refine ⟨by omega, ?_⟩; repeat (first | assumption | constructor)) | assumption))); intro _; try simp )
    | fail)
theorem areWeights_c (o : List Int) (hl : o.length ≤ big) : CallP Try.prog 66 [ints o] (bv (areW o)) := by
  refine C66 (by simp) ?_
  have hc := containsFunc_c o hl 100 [] (fun n => !(decide (0 ≤ n) && decide (n ≤ 1000))) notWeight_c (by simp) (by simp) (by simp)
  unfold areW
  generalize o.any (fun n => !(decide (0 ≤ n) && decide (n ≤ 1000))) = R at hc
  have e : decide ((o.length : Int) = 6) = decide (o.length = 6) := by rw [Bool.eq_iff_iff]; simp; omega
  simp [A66]
  try simp 
  repeat' (first
    | (refine CallX.pure (hc) (by simp) (by simp) ?_; try simp )
    | (refine CallK.intro (hc) (by simp) (by simp) ?_; try simp )
    | (refine CallG.intro (fun _ => hc) (by simp) (by simp) ?_; try simp )
    | ((with_reducible refine PreK.intro ?_ ?_); (next => (first | omega | (intros; first | omega | (refine ⟨by omega, ?_⟩; repeat (first | assumption | constructor)) | assumption))); intro _; try simp )
    | fail)
  rw [e]
def WeighR (o w : List Int) : Int × Int := if areW o = false then (0, 1) else if wordErr w ≠ 0 then (0, wordErr w) else (weighM o w, 0)
theorem areW_facts {o : List Int} (h : areW o = true) : o.length = 6 ∧ (∀ k, 0 ≤ el o k) ∧ ∀ k, el o k ≤ 1000 := by
  unfold areW at h
  simp only [Bool.and_eq_true, decide_eq_true_eq, Bool.not_eq_true', List.any_eq_false, Bool.not_eq_true, Bool.not_eq_false'] at h
  obtain ⟨h1, h2⟩ := h
  refine ⟨h1, fun k => ?_, fun k => ?_⟩
  · by_cases hk : k < o.length
    · have := h2 (el o k) (el_mem o k hk)
      simp at this; omega
    · rw [el_out o k (by omega)]; exact Int.le_refl 0
  · by_cases hk : k < o.length
    · have := h2 (el o k) (el_mem o k hk)
      simp at this; omega
    · rw [el_out o k (by omega)]; decide
theorem word_in {w : List Int} (h : wordErr w = 0) : w.length ≤ 8 ∧ ∀ x ∈ w, 0 ≤ x ∧ x ≤ 5 := by
  obtain ⟨h1, h2⟩ := wordErr_zero h
  refine ⟨h1, fun x hx => ?_⟩
  have := List.all_eq_true.1 h2 x hx
  simpa [isSound] using this
theorem Weigh_c (o w : List Int) (ho : o.length ≤ big) (hw : w.length ≤ 1000) : CallP Try.prog 25 [ints o, ints w] (.tup [iv (WeighR o w).1, iv (WeighR o w).2]) := by
  refine C25 (by simp) ?_
  simp [A25]
  try simp 
  repeat' (first
    | (refine CallX.pure (areWeights_c o ho) (by simp) (by simp) ?_; try simp )
    | (refine CallK.intro (areWeights_c o ho) (by simp) (by simp) ?_; try simp )
    | (refine CallG.intro (fun _ => areWeights_c o ho) (by simp) (by simp) ?_; try simp )
    | ((with_reducible refine PreK.intro ?_ ?_); (next => (first | omega | (intros; first | omega | (refine ⟨by omega, ?_⟩; repeat (first | assumption | constructor)) | assumption))); intro _; try simp )
    | fail)
  refine CondK.intro (fun h1 => ?_) (fun h1 => ?_)
  · simp at h1
    simp [WeighR, h1]
  · simp at h1
    obtain ⟨f1, f2, f3⟩ := areW_facts h1
    try simp 
    repeat' (first
      | (refine CallX.pure (validateWord_c w (big_of (by omega))) (by simp) (by simp) ?_; try simp )
      | (refine CallK.intro (validateWord_c w (big_of (by omega))) (by simp) (by simp) ?_; try simp )
      | (refine CallG.intro (fun _ => validateWord_c w (big_of (by omega))) (by simp) (by simp) ?_; try simp )
      | ((with_reducible refine PreK.intro ?_ ?_); (next => (first | omega | (intros; first | omega | (refine ⟨by omega, ?_⟩; repeat (first | assumption | constructor)) | assumption))); intro _; try simp )
      | fail)
    refine CondK.intro (fun h2 => ?_) (fun h2 => ?_)
    · simp at h2
      simp [WeighR, h1, h2]
    · simp at h2
      obtain ⟨g1, g2⟩ := word_in h2
      have hle := weighM_le f3 (by omega) w
      try simp 
      repeat' (first
        | (refine CallX.pure (weigh_c o w f1 hw g2 f2 (by omega)) (by simp) (by simp) ?_; try simp )
        | (refine CallK.intro (weigh_c o w f1 hw g2 f2 (by omega)) (by simp) (by simp) ?_; try simp )
        | (refine CallG.intro (fun _ => weigh_c o w f1 hw g2 f2 (by omega)) (by simp) (by simp) ?_; try simp )
        | ((with_reducible refine PreK.intro ?_ ?_); (next => (first | omega | (intros; first | omega | (refine ⟨by omega, ?_⟩; repeat (first | assumption | constructor)) | assumption))); intro _; try simp )
        | fail)
      simp [WeighR, h1, h2]

def WeightsR (s : List Rule) : List Int × Bool × Int :=
  if sysErr s ≠ 0 then ([], false, sysErr s) else match roundsM s 7 [0, 0, 0, 0, 0, 0] with
    | none => ([], false, 0)
    | some o => (o, true, 0)
theorem ruleErr_snd {r : Rule} (h : ruleErr r = 0) : ∀ x ∈ r.to, isSound x = true := by
  unfold ruleErr at h
  split at h
  · cases h
  · split at h
    · cases h
    · split at h
      · cases h
      · rename_i h3
        simp only [Bool.or_eq_true, not_or, Bool.not_eq_true, List.any_eq_false] at h3
        intro x hx
        have := h3.1.1 x hx
        simpa using this
theorem rule_in {r : Rule} (h : ruleErr r = 0) : -1 ≤ r.frm ∧ r.frm ≤ 5 ∧ r.to.length ≤ 2 ∧ ∀ x ∈ r.to, 0 ≤ x ∧ x ≤ 5 := by
  have h1 := ruleErr_frm h
  simp [isNeighbor, isSound] at h1
  refine ⟨by omega, by omega, ruleErr_to h, fun x hx => ?_⟩
  have := ruleErr_snd h x hx
  simpa [isSound] using this
/-- A bound of weights that were raised so often. -/
def bnd (e : Nat) : Int := ((2 ^ e : Nat) : Int) - 1
theorem bnd_mono {a b : Nat} (h : a ≤ b) : bnd a ≤ bnd b := by
  have := Nat.pow_le_pow_right (n := 2) (by omega) h
  unfold bnd; omega
theorem bnd_succ (e : Nat) : bnd (e + 1) = 2 * bnd e + 1 := by
  unfold bnd
  rw [Nat.pow_succ]
  omega
theorem bnd_top {e : Nat} (h : e ≤ 42) : bnd e ≤ 4398046511103 := by
  have := bnd_mono h
  have : bnd 42 = 4398046511103 := rfl
  omega
theorem weigh_bnd {o : List Int} {e : Nat} (h0 : ∀ k, 0 ≤ el o k) (hb : ∀ k, el o k ≤ bnd e) {w : List Int} (hl : w.length ≤ 2) : weighM o w ≤ 2 * bnd e := by
  have h1 : 0 ≤ bnd e := Int.le_trans (h0 0) (hb 0)
  match w, hl with
  | [], _ => simp only [weighM]; omega
  | [x], _ => have := hb x.toNat; simp only [weighM]; omega
  | [x, y], _ => have := hb x.toNat; have := hb y.toNat; simp only [weighM]; omega
  | _ :: _ :: _ :: _, hl => exact absurd hl (by simp)
def rndK (s : List Rule) (n : Nat) : Option (List Int × Bool) → Option (List Int)
  | none => none
  | some (o, g) => if g then roundsM s n o else some o
theorem roundsM_succ (s : List Rule) (n : Nat) (o : List Int) : roundsM s (n + 1) o = rndK s n (passM s (o, false)) := by
  rw [roundsM]
  cases passM s (o, false) with
  | none => rfl
  | some p => rfl
theorem Weights_c (s : List Rule) (hs : Sys.small s) : CallP Try.prog 24 [rulesV s] (.tup [ints (WeightsR s).1, bv (WeightsR s).2.1, iv (WeightsR s).2.2]) := by
  refine C24 (by simp) ?_
  simp [A24]
  try simp 
  repeat' (first
    | (refine CallX.pure (Validate_c s hs) (by simp) (by simp) ?_; try simp )
    | (refine CallK.intro (Validate_c s hs) (by simp) (by simp) ?_; try simp )
    | (refine CallG.intro (fun _ => Validate_c s hs) (by simp) (by simp) ?_; try simp )
    | ((with_reducible refine PreK.intro ?_ ?_); (next => (first | omega | (intros; first | omega | (refine ⟨by omega, ?_⟩; repeat (first | assumption | constructor)) | assumption))); intro _; try simp )
    | fail)
  refine CondK.intro (fun h1 => ?_) (fun h1 => ?_)
  · simp at h1
    simp [WeightsR, h1]
  · simp at h1
    obtain ⟨hs6, hsr⟩ := sysErr_zero h1
    have hRR : WeightsR s = match roundsM s 7 [0, 0, 0, 0, 0, 0] with | none => ([], false, 0) | some o => (o, true, 0) := by simp [WeightsR, h1]
    rw [hRR]
    generalize hR : roundsM s 7 [0, 0, 0, 0, 0, 0] = R
    try simp 
    have hz : ∀ k, el ([0, 0, 0, 0, 0, 0] : List Int) k = 0 := fun k => (kept_zero []).sup k |>.elim id (fun ⟨r, hr, _⟩ => by cases hr)
    refine LoopK.by (ι := Nat × List Int) (fun i => ⟨[(18, iv i.1), (0, rulesV s), (6, .sl 17 1 0 6)], [(17, some ⟨1, i.2.map iv, 1, false⟩)]⟩) (fun i => 7 - i.1)
      (fun i => i.1 ≤ 6 ∧ i.2.length = 6 ∧ (∀ k, 0 ≤ el i.2 k) ∧ (∀ k, el i.2 k ≤ bnd (6 * i.1)) ∧ roundsM s (7 - i.1) i.2 = R) (0, [0, 0, 0, 0, 0, 0]) ⟨by simp, rfl, fun k => by rw [hz]; exact Int.le_refl 0, fun k => by rw [hz]; exact Int.le_refl 0, hR⟩ (by simp) ?_
    intro ⟨k, o⟩ Q' ⟨hk, hol, ho0, hob, hc⟩ hq he hr
    dsimp only at hk hol ho0 hob hc
    rw [show 7 - k = (6 - k) + 1 by omega, roundsM_succ] at hc
    try simp 
    refine CondK.intro (fun h2 => ?_) (fun h2 => ?_)
    · try simp 
      refine LoopK.by (ι := Nat × List Int × Bool) (fun i => ⟨[(23, iv i.1), (22, iv s.length), (21, rulesV s), (18, iv k), (7, iv k), (8, bv i.2.2), (0, rulesV s), (6, .sl 17 1 0 6)], [(17, some ⟨1, i.2.1.map iv, 1, false⟩)]⟩) (fun i => s.length - i.1)
        (fun i => i.1 ≤ s.length ∧ i.2.1.length = 6 ∧ (∀ k, 0 ≤ el i.2.1 k) ∧ (∀ j, el i.2.1 j ≤ bnd (6 * k + i.1)) ∧ rndK s (6 - k) (passM (s.drop i.1) (i.2.1, i.2.2)) = R) (0, o, false) ⟨by simp, hol, ho0, hob, hc⟩ (by simp) ?_
      intro ⟨j, p, g⟩ Q'' ⟨hj, hpl, hp0, hpb, hc'⟩ hq' he' hr'
      dsimp only at hj hpl hp0 hpb hc'
      try simp 
      refine CondK.intro (fun h3 => ?_) (fun h3 => ?_)
      · simp at h3
        obtain ⟨r1, r2, r3, r4⟩ := rule_in (hsr (el s j) (by rw [el_eq s j h3]; exact List.getElem_mem h3))
        rw [drop_cons s j h3, passM] at hc'
        simp [h3]
        refine CondK.intro (fun h4 => ?_) (fun h4 => ?_)
        · simp at h4
          rw [if_pos h4] at hc'
          simp only [rndK] at hc'
          try simp 
          apply hr'
          apply hr
          simp [← hc']
        · simp at h4
          rw [if_neg (by omega)] at hc'
          have hb2 := weigh_bnd hp0 hpb r3
          have ht := bnd_top (e := 6 * k + j) (by omega)
          have hw0 := weighM_nonneg hp0 (el s j).to
          have hwc := weigh_c p (el s j).to hpl (by omega) r4 hp0 (by omega)
          have hfl : (el s j).frm.toNat < p.length := by omega
          have hf0 : 0 ≤ (el s j).frm := by omega
          have hf6 : (el s j).frm.toNat < 6 := by omega
          have hbs := bnd_succ (6 * k + j)
          have hbm := bnd_mono (a := 6 * k + j) (b := 6 * k + j + 1) (by omega)
          have ht6 : (p.map iv).take 6 = p.map iv := List.take_of_length_le (by simp; omega)
          try simp 
          refine CallX.pure (by simpa [ht6] using hwc) (by simp [hpl]) (by simp) ?_
          simp [hfl, hf0]
          repeat (refine PreK.intro (by first | omega | (intros; first | omega | (refine ⟨by omega, ?_⟩; simp_all; done) | (simp_all; done) | (simp_all; omega))) fun _ => ?_; (try simp [hfl, hf0, hf6]))
          repeat (refine PreK.intro (by first | omega | (intros; first | omega | (refine ⟨by omega, ?_⟩; simp_all; done) | (simp_all; done) | (simp_all; omega))) fun _ => ?_; (try simp [hfl, hf0, hpl]))
          refine CondK.intro (fun h5 => ?_) (fun h5 => ?_)
          · simp at h5
            rw [if_pos (by omega)] at hc'
            repeat (refine PreK.intro (by first | omega | (intros; first | omega | (refine ⟨by omega, ?_⟩; simp_all; done) | (simp_all; done) | (simp_all; omega))) fun _ => ?_; (try simp [hfl, hf0, hf6]))
            refine hq' (j + 1, p.set (el s j).frm.toNat (weighM p (el s j).to + 1), true) _ ⟨by dsimp only; omega, by simpa using hpl, fun x => ?_, fun x => ?_, hc'⟩ (by dsimp only; omega) (by simp [hfl, hf0, hpl])
            · dsimp only
              rw [el_set _ _ _ _ hfl]
              split
              · omega
              · exact hp0 x
            · dsimp only
              rw [el_set _ _ _ _ hfl, show 6 * k + (j + 1) = 6 * k + j + 1 by omega]
              split
              · omega
              · have := hpb x; omega
          · simp at h5
            rw [if_neg (by omega)] at hc'
            repeat (refine PreK.intro (by first | omega | (intros; first | omega | (refine ⟨by omega, ?_⟩; simp_all; done) | (simp_all; done) | (simp_all; omega))) fun _ => ?_; (try simp [hfl, hf0, hf6]))
            refine hq' (j + 1, p, g) _ ⟨by dsimp only; omega, hpl, hp0, fun x => ?_, hc'⟩ (by dsimp only; omega) (by simp)
            dsimp only
            rw [show 6 * k + (j + 1) = 6 * k + j + 1 by omega]
            have := hpb x
            omega
      · simp at h3
        rw [List.drop_eq_nil_of_le (by omega), passM] at hc'
        have hjs : j ≤ 6 := by omega
        try simp 
        apply he'
        cases g
        · simp only [rndK, Bool.false_eq_true, if_false] at hc'
          have ht6 : (p.map iv).take 6 = p.map iv := List.take_of_length_le (by simp; omega)
          try simp 
          refine CondK.intro (fun h4 => ?_) (fun h4 => ?_)
          · try simp 
            apply he
            simp [← hc', hpl, ht6]
          · simp at h4
        · simp only [rndK, if_true] at hc'
          try simp 
          refine CondK.intro (fun h4 => ?_) (fun h4 => ?_)
          · simp at h4
          · try simp 
            refine CondK.intro (fun h6 => ?_) (fun h6 => ?_)
            · simp at h6
              have hk6 : k = 6 := by omega
              subst hk6
              simp only [Nat.sub_self, roundsM] at hc'
              try simp 
              apply hr
              simp [← hc']
            · simp at h6
              repeat (refine PreK.intro (by first | omega | (intros; first | omega | (refine ⟨by omega, ?_⟩; simp_all; done) | (simp_all; done) | (simp_all; omega))) fun _ => ?_; (try simp ))
              refine hq (k + 1, p) _ ⟨by dsimp only; omega, hpl, hp0, fun x => ?_, by dsimp only; rw [show 7 - (k + 1) = 6 - k by omega]; exact hc'⟩ (by dsimp only; omega) (by simp)
              have h7 := hpb x
              have h8 := bnd_mono (a := 6 * k + j) (b := 6 * (k + 1)) (by omega)
              dsimp only
              omega
    · simp at h2; omega
theorem WeightsR_some {s : List Rule} (h : (WeightsR s).2.2 = 0) (h2 : (WeightsR s).2.1 = true) : sysErr s = 0 ∧ roundsM s 7 [0, 0, 0, 0, 0, 0] = some (WeightsR s).1 := by
  unfold WeightsR at h h2 ⊢
  split at h
  · rename_i h1; exact absurd h h1
  · rename_i h1
    rw [if_neg h1] at h2 ⊢
    simp only [ne_eq, Decidable.not_not] at h1
    refine ⟨h1, ?_⟩
    cases hr : roundsM s 7 [0, 0, 0, 0, 0, 0] with
    | none => rw [hr] at h2; cases h2
    | some o => rfl
end Go.Proofs.Ytkhddecnllcaiaa
end

section
/- Plain: the words that a word reaches, with the step to each. -/
namespace Go.Proofs.Ytkhddecnllcaiaa
open Go.Abs Go

/-- Words, and whence and by which step each was found first. -/
structure Gr where
  ws : List Word
  frm : List Int
  stp : List Step
def addG (i : Nat) : Gr → List Move → Option Gr
  | g, [] => some g
  | g, m :: l => if m.word ∈ g.ws then addG i g l else if g.ws.length = 300 then none else addG i ⟨g.ws ++ [m.word], g.frm ++ [(i : Int)], g.stp ++ [m.step]⟩ l
def closeG (s : List Rule) : Nat → Nat → Gr → Option Gr
  | 0, _, g => some g
  | n + 1, i, g => if i < g.ws.length then match addG i g (movesM s (el g.ws i)) with
      | none => none
      | some g' => closeG s n (i + 1) g'
    else some g
def reachG (s : List Rule) (w : Word) : Option Gr := closeG s 301 0 ⟨[w], [-1], [⟨0, 0⟩]⟩
/-- What holds of it all the time. -/
structure Gr.ok (g : Gr) : Prop where
  fine : ∀ x ∈ g.ws, wordErr x = 0
  num : g.ws.length ≤ 300
  frm : g.frm.length = g.ws.length
  stp : g.stp.length = g.ws.length
  some : 0 < g.ws.length
theorem fine_of {w : Word} (h : wordErr w = 0) : fine w := by
  obtain ⟨_, h2⟩ := wordErr_zero h
  intro x hx
  have := List.all_eq_true.1 h2 x hx
  simpa [isSound] using this
theorem wordErr_by {w : List Int} (h : w.length ≤ 8) (h2 : ∀ x ∈ w, 0 ≤ x ∧ x ≤ 5) : wordErr w = 0 := by
  unfold wordErr
  rw [if_neg (by omega)]
  have : (w.any fun x => !isSound x) = false := by
    simp only [List.any_eq_false, Bool.not_eq_true', Bool.not_eq_false]
    intro x hx
    have := h2 x hx
    simp [isSound, this]
  simp [this]
theorem apply_right {s : List Rule} {r : Rule} {w : Word} {p : Int} (hs : sysErr s = 0) (hr : r ∈ s) (hw : wordErr w = 0) (h : (applyM r w p).2 = 0) : wordErr (applyM r w p).1 = 0 := by
  obtain ⟨_, _, h5⟩ := applyM_zero h
  obtain ⟨_, _, _, hx⟩ := rule_in ((sysErr_zero hs).2 r hr)
  obtain ⟨_, hy⟩ := word_in hw
  refine wordErr_by (applyM_len _ _ _) fun x hm => ?_
  rw [h5] at hm
  unfold putW at hm
  rcases List.mem_append.1 hm with hm | hm
  · rcases List.mem_append.1 hm with hm | hm
    · exact hy x (List.mem_of_mem_take hm)
    · exact hx x hm
  · exact hy x (List.mem_of_mem_drop hm)
theorem movesR_word {r : Rule} {w : Word} {k : Nat} : ∀ (n i : Nat), ∀ m ∈ movesR r w k i n, m.word = (applyM r w m.step.place).1 ∧ (applyM r w m.step.place).2 = 0
  | 0, i, m, h => by simp [movesR] at h
  | n + 1, i, m, h => by
    rw [movesR] at h
    rcases List.mem_append.1 h with h | h
    · unfold moveAt at h
      split at h
      · rename_i h0
        simp only [List.mem_singleton] at h
        subst h
        exact ⟨rfl, h0⟩
      · cases h
    · exact movesR_word n (i + 1) m h
theorem movesF_word {w : Word} : ∀ (s : List Rule) (k : Nat), ∀ m ∈ movesF w k s, ∃ r ∈ s, m.word = (applyM r w m.step.place).1 ∧ (applyM r w m.step.place).2 = 0
  | [], k, m, h => by simp [movesF] at h
  | r :: s, k, m, h => by
    rw [movesF] at h
    rcases List.mem_append.1 h with h | h
    · exact ⟨r, by simp, movesR_word _ _ m h⟩
    · obtain ⟨r', h1, h2⟩ := movesF_word s (k + 1) m h
      exact ⟨r', by simp [h1], h2⟩
theorem moves_right {s : List Rule} {w : Word} (hs : sysErr s = 0) (hw : wordErr w = 0) {m : Move} (h : m ∈ movesM s w) : wordErr m.word = 0 := by
  obtain ⟨r, h1, h2, h3⟩ := movesF_word s 0 m h
  rw [h2]
  exact apply_right hs h1 hw h3
theorem Gr.ok.push {g : Gr} (h : g.ok) {w : Word} {f : Int} {x : Step} (hw : wordErr w = 0) (hn : g.ws.length ≠ 300) : Gr.ok ⟨g.ws ++ [w], g.frm ++ [f], g.stp ++ [x]⟩ := by
  have h1 := h.num
  refine ⟨fun y hy => ?_, by simp; omega, by simp [h.frm], by simp [h.stp], by simp⟩
  rcases List.mem_append.1 hy with hy | hy
  · exact h.fine y hy
  · simp only [List.mem_singleton] at hy
    subst hy; exact hw
theorem Gr.start {w : Word} (hw : wordErr w = 0) : Gr.ok ⟨[w], [-1], [⟨0, 0⟩]⟩ := ⟨by simpa using hw, by simp, rfl, rfl, by simp⟩
end Go.Proofs.Ytkhddecnllcaiaa
end

section
/- Functions of the cut as the value layer reads them. (written by gen.py) -/
set_option maxRecDepth 20000
namespace Go.Proofs.Ytkhddecnllcaiaa
open Go.Abs Go

def A8 : ACode :=
  (.seq (.reg [] [⟨some 4, (.assign (.const (.bool false))), 4, none⟩])
    (.seq (.seq (.reg [] [⟨some 6, (.move (.tmp 0)), 22, none⟩,
      ⟨some 7, (.call ⟨(.builtin .len), #[(.tmp 6)], #[22]⟩), 3, none⟩,
      ⟨some 8, (.move (.tmp 1)), 22, none⟩,
      ⟨some 9, (.call ⟨(.builtin .len), #[(.tmp 8)], #[22]⟩), 3, none⟩,
      ⟨some 10, (.binOp .neq 3 (.tmp 7) (.tmp 9) 3), 4, none⟩])
    (.cond (.tmp 10)
    (.seq (.reg [] [⟨some 4, (.assign (.const (.bool false))), 4, none⟩])
    .ret)
    .skip))
    (.seq (.seq (.reg [] [⟨some 5, (.assign (.const (.int .i64 0))), 3, none⟩])
    (.block 0 (.loop (.seq (.seq (.reg [] [⟨some 11, (.move (.tmp 5)), 3, none⟩,
      ⟨some 12, (.move (.tmp 0)), 22, none⟩,
      ⟨some 13, (.call ⟨(.builtin .len), #[(.tmp 12)], #[22]⟩), 3, none⟩,
      ⟨some 14, (.binOp .lss 3 (.tmp 11) (.tmp 13) 3), 4, none⟩])
    (.cond (.tmp 14)
    .skip
    (.exit 0)))
    (.seq (.block 1 (.seq (.draw [] [⟨some 17, (.move (.tmp 0)), 22, none⟩,
      ⟨some 18, (.move (.tmp 5)), 3, none⟩,
      ⟨some 19, (.indexAddr 22 (.tmp 17) (.tmp 18)), 0, none⟩,
      ⟨some 20, (.load 3 (.tmp 19)), 3, none⟩,
      ⟨some 21, (.move (.tmp 1)), 22, none⟩,
      ⟨some 22, (.move (.tmp 5)), 3, none⟩,
      ⟨some 23, (.indexAddr 22 (.tmp 21) (.tmp 22)), 0, none⟩,
      ⟨some 24, (.load 3 (.tmp 23)), 3, none⟩,
      ⟨some 25, (.binOp .neq 3 (.tmp 20) (.tmp 24) 3), 4, none⟩] [(0, 1), (0, 4), (1, 4), (2, 4), (3, 4), (0, 5), (1, 5), (2, 5), (3, 5), (4, 5), (0, 6), (1, 6), (2, 6), (3, 6), (0, 7), (1, 7), (2, 7), (3, 7)])
    (.cond (.tmp 25)
    (.seq (.reg [] [⟨some 4, (.assign (.const (.bool false))), 4, none⟩])
    .ret)
    .skip)))
    (.reg [] [⟨some 15, (.move (.tmp 5)), 3, none⟩,
      ⟨some 16, (.binOp .add 3 (.tmp 15) (.const (.int .i64 1)) 3), 3, none⟩,
      ⟨some 5, (.assign (.tmp 16)), 3, none⟩]))))))
    (.seq (.reg [] [⟨some 4, (.assign (.const (.bool true))), 4, none⟩])
    .ret))))
theorem C8 {args : List AV} {r : AV} (hn : args.length ≤ 26) (h : vc Try.prog T [] A8 (Fin T [(.tmp 4)] r) ⟨envOf 0 args, []⟩) : CallP Try.prog 8 args r :=
  callP_of tok mixed Try.func8 (by kernel_rfl) (by kernel_rfl) (by kernel_rfl : Try.f8.ntmps = 26) (by kernel_rfl : Try.f8.body.bind (strip 26 (fun _ => [])) = some A8) hn h
def A18 : ACode :=
  (.seq (.reg [] [⟨some 2, (.assign (.const (.bool false))), 4, none⟩])
    (.seq (.seq (.reg [] [⟨some 4, (.move (.tmp 0)), 41, none⟩,
      ⟨some 5, (.call ⟨(.builtin .len), #[(.tmp 4)], #[41]⟩), 3, none⟩,
      ⟨some 6, (.binOp .gtr 3 (.tmp 5) (.const (.int .i64 50)) 3), 4, none⟩])
    (.cond (.tmp 6)
    (.seq (.reg [] [⟨some 2, (.assign (.const (.bool true))), 4, none⟩])
    .ret)
    .skip))
    (.seq (.seq (.reg [] [⟨some 3, (.assign (.const (.int .i64 0))), 3, none⟩])
    (.block 0 (.loop (.seq (.seq (.reg [] [⟨some 7, (.move (.tmp 3)), 3, none⟩,
      ⟨some 8, (.move (.tmp 0)), 41, none⟩,
      ⟨some 9, (.call ⟨(.builtin .len), #[(.tmp 8)], #[41]⟩), 3, none⟩,
      ⟨some 10, (.binOp .lss 3 (.tmp 7) (.tmp 9) 3), 4, none⟩])
    (.cond (.tmp 10)
    .skip
    (.exit 0)))
    (.seq (.block 1 (.seq (.reg [] [⟨some 13, (.move (.tmp 0)), 41, none⟩,
      ⟨some 14, (.move (.tmp 3)), 3, none⟩,
      ⟨some 15, (.indexAddr 41 (.tmp 13) (.tmp 14)), 0, none⟩,
      ⟨some 16, (.load 24 (.tmp 15)), 24, none⟩,
      ⟨some 17, (.call ⟨(.value (.func 9)), #[(.tmp 16)], #[24]⟩), 4, none⟩])
    (.cond (.tmp 17)
    (.seq (.reg [] [⟨some 2, (.assign (.const (.bool true))), 4, none⟩])
    .ret)
    .skip)))
    (.reg [] [⟨some 11, (.move (.tmp 3)), 3, none⟩,
      ⟨some 12, (.binOp .add 3 (.tmp 11) (.const (.int .i64 1)) 3), 3, none⟩,
      ⟨some 3, (.assign (.tmp 12)), 3, none⟩]))))))
    (.seq (.reg [] [⟨some 2, (.assign (.const (.bool false))), 4, none⟩])
    .ret))))
theorem C18 {args : List AV} {r : AV} (hn : args.length ≤ 18) (h : vc Try.prog T [] A18 (Fin T [(.tmp 2)] r) ⟨envOf 0 args, []⟩) : CallP Try.prog 18 args r :=
  callP_of tok mixed Try.func18 (by kernel_rfl) (by kernel_rfl) (by kernel_rfl : Try.f18.ntmps = 18) (by kernel_rfl : Try.f18.body.bind (strip 18 (fun _ => [])) = some A18) hn h
def A19 : ACode :=
  (.seq (.reg [] [⟨some 4, (.assign (.const (.slice none 0 0))), 45, none⟩,
      ⟨some 5, (.assign (.const (.int .i64 0))), 27, none⟩])
    (.seq (.reg [] [⟨some 12, (.move (.tmp 0)), 41, none⟩,
      ⟨some 13, (.move (.tmp 1)), 22, none⟩,
      ⟨some 14, (.call ⟨(.value (.func 56)), #[(.tmp 12), (.tmp 13)], #[41, 22]⟩), 87, none⟩,
      ⟨some 11, (.move (.tmp 14)), 87, none⟩,
      ⟨some 15, (.extract (.tmp 11) 0), 86, none⟩,
      ⟨some 16, (.extract (.tmp 11) 1), 27, none⟩,
      ⟨some 6, (.assign (.tmp 15)), 86, none⟩,
      ⟨some 7, (.assign (.tmp 16)), 27, none⟩])
    (.seq (.seq (.reg [] [⟨some 17, (.move (.tmp 7)), 27, none⟩,
      ⟨some 18, (.binOp .neq 27 (.tmp 17) (.const (.int .i64 0)) 27), 4, none⟩])
    (.cond (.tmp 18)
    (.seq (.reg [] [⟨some 19, (.move (.tmp 7)), 27, none⟩,
      ⟨some 4, (.assign (.const (.slice none 0 0))), 45, none⟩,
      ⟨some 5, (.assign (.tmp 19)), 27, none⟩])
    .ret)
    .skip))
    (.seq (.reg [] [⟨some 8, (.assign (.const (.slice none 0 0))), 45, none⟩])
    (.seq (.seq (.reg [] [⟨some 20, (.move (.tmp 6)), 86, none⟩,
      ⟨some 21, (.nilCheck (.tmp 20)), 0, none⟩,
      ⟨some 22, (.fieldAddr 93 (.tmp 21) 1), 0, none⟩,
      ⟨some 23, (.load 45 (.tmp 22)), 45, none⟩,
      ⟨some 24, (.call ⟨(.builtin .len), #[(.tmp 23)], #[45]⟩), 3, none⟩,
      ⟨some 25, (.move (.const (.int .i64 0))), 3, none⟩])
    (.block 0 (.loop (.seq (.reg [] [⟨some 26, (.binOp .lss 3 (.tmp 25) (.tmp 24) 3), 0, none⟩])
    (.seq (.cond (.tmp 26)
    .skip
    (.exit 0))
    (.seq (.block 1 (.seq (.reg [] [⟨some 27, (.indexAddr 45 (.tmp 23) (.tmp 25)), 0, none⟩,
      ⟨some 28, (.load 22 (.tmp 27)), 22, none⟩,
      ⟨some 10, (.assign (.tmp 28)), 22, none⟩])
    (.reg [] [⟨some 29, (.move (.tmp 8)), 45, none⟩,
      ⟨some 30, (.move (.tmp 10)), 22, none⟩,
      ⟨some 31, (.call ⟨(.value (.func 50)), #[(.tmp 30)], #[22]⟩), 22, none⟩,
      ⟨some 32, (.buildSlice 45 1 #[(0, (.tmp 31))]), 45, none⟩,
      ⟨some 33, (.call ⟨(.builtin .append), #[(.tmp 29), (.tmp 32)], #[45, 45]⟩), 45, none⟩,
      ⟨some 8, (.assign (.tmp 33)), 45, none⟩])))
    (.reg [] [⟨some 34, (.binOp .add 3 (.tmp 25) (.const (.int .i64 1)) 3), 3, none⟩,
      ⟨some 25, (.move (.tmp 34)), 3, none⟩])))))))
    (.seq (.reg [] [⟨some 35, (.move (.tmp 8)), 45, none⟩,
      ⟨some 36, (.call ⟨(.value (.func 58)), #[(.tmp 35)], #[45]⟩), 45, none⟩,
      ⟨some 4, (.assign (.tmp 36)), 45, none⟩,
      ⟨some 5, (.assign (.const (.int .i64 0))), 27, none⟩])
    .ret))))))
theorem C19 {args : List AV} {r : AV} (hn : args.length ≤ 37) (h : vc Try.prog T [] A19 (Fin T [(.tmp 4), (.tmp 5)] r) ⟨envOf 0 args, []⟩) : CallP Try.prog 19 args r :=
  callP_of tok mixed Try.func19 (by kernel_rfl) (by kernel_rfl) (by kernel_rfl : Try.f19.ntmps = 37) (by kernel_rfl : Try.f19.body.bind (strip 37 (fun _ => [])) = some A19) hn h
def A34 : ACode :=
  (.seq (.reg [] [⟨some 4, (.assign (.const (.bool false))), 4, none⟩])
    (.seq (.seq (.reg [] [⟨some 6, (.move (.tmp 0)), 45, none⟩,
      ⟨some 7, (.call ⟨(.builtin .len), #[(.tmp 6)], #[45]⟩), 3, none⟩,
      ⟨some 8, (.move (.tmp 1)), 45, none⟩,
      ⟨some 9, (.call ⟨(.builtin .len), #[(.tmp 8)], #[45]⟩), 3, none⟩,
      ⟨some 10, (.binOp .neq 3 (.tmp 7) (.tmp 9) 3), 4, none⟩])
    (.cond (.tmp 10)
    (.seq (.reg [] [⟨some 4, (.assign (.const (.bool false))), 4, none⟩])
    .ret)
    .skip))
    (.seq (.seq (.reg [] [⟨some 5, (.assign (.const (.int .i64 0))), 3, none⟩])
    (.block 0 (.loop (.seq (.seq (.reg [] [⟨some 11, (.move (.tmp 5)), 3, none⟩,
      ⟨some 12, (.move (.tmp 0)), 45, none⟩,
      ⟨some 13, (.call ⟨(.builtin .len), #[(.tmp 12)], #[45]⟩), 3, none⟩,
      ⟨some 14, (.binOp .lss 3 (.tmp 11) (.tmp 13) 3), 4, none⟩])
    (.cond (.tmp 14)
    .skip
    (.exit 0)))
    (.seq (.block 1 (.seq (.draw [] [⟨some 17, (.move (.tmp 0)), 45, none⟩,
      ⟨some 18, (.move (.tmp 5)), 3, none⟩,
      ⟨some 19, (.indexAddr 45 (.tmp 17) (.tmp 18)), 0, none⟩,
      ⟨some 20, (.load 22 (.tmp 19)), 22, none⟩,
      ⟨some 21, (.move (.tmp 1)), 45, none⟩,
      ⟨some 22, (.move (.tmp 5)), 3, none⟩,
      ⟨some 23, (.indexAddr 45 (.tmp 21) (.tmp 22)), 0, none⟩,
      ⟨some 24, (.load 22 (.tmp 23)), 22, none⟩,
      ⟨some 25, (.call ⟨(.value (.func 8)), #[(.tmp 20), (.tmp 24)], #[22, 22]⟩), 4, none⟩,
      ⟨some 26, (.unOp .not 4 (.tmp 25)), 4, none⟩] [(0, 1), (0, 4), (1, 4), (2, 4), (3, 4), (0, 5), (1, 5), (2, 5), (3, 5), (4, 5), (0, 6), (1, 6), (2, 6), (3, 6), (0, 7), (1, 7), (2, 7), (3, 7)])
    (.cond (.tmp 26)
    (.seq (.reg [] [⟨some 4, (.assign (.const (.bool false))), 4, none⟩])
    .ret)
    .skip)))
    (.reg [] [⟨some 15, (.move (.tmp 5)), 3, none⟩,
      ⟨some 16, (.binOp .add 3 (.tmp 15) (.const (.int .i64 1)) 3), 3, none⟩,
      ⟨some 5, (.assign (.tmp 16)), 3, none⟩]))))))
    (.seq (.reg [] [⟨some 4, (.assign (.const (.bool true))), 4, none⟩])
    .ret))))
theorem C34 {args : List AV} {r : AV} (hn : args.length ≤ 27) (h : vc Try.prog T [] A34 (Fin T [(.tmp 4)] r) ⟨envOf 0 args, []⟩) : CallP Try.prog 34 args r :=
  callP_of tok mixed Try.func34 (by kernel_rfl) (by kernel_rfl) (by kernel_rfl : Try.f34.ntmps = 27) (by kernel_rfl : Try.f34.body.bind (strip 27 (fun _ => [])) = some A34) hn h
def A27 : ACode :=
  (.seq (.reg [] [⟨some 4, (.assign (.const (.slice none 0 0))), 45, none⟩,
      ⟨some 5, (.assign (.const (.int .i64 0))), 27, none⟩])
    (.seq (.seq (.reg [] [⟨some 7, (.move (.tmp 0)), 41, none⟩,
      ⟨some 8, (.move (.tmp 1)), 22, none⟩,
      ⟨some 9, (.buildSlice 45 1 #[(0, (.tmp 8))]), 45, none⟩,
      ⟨some 10, (.call ⟨(.value (.func 67)), #[(.tmp 7), (.tmp 9)], #[41, 45]⟩), 27, none⟩,
      ⟨some 6, (.assign (.tmp 10)), 27, none⟩])
    (.seq (.reg [] [⟨some 11, (.move (.tmp 6)), 27, none⟩,
      ⟨some 12, (.binOp .neq 27 (.tmp 11) (.const (.int .i64 0)) 27), 4, none⟩])
    (.cond (.tmp 12)
    (.seq (.reg [] [⟨some 13, (.move (.tmp 6)), 27, none⟩,
      ⟨some 4, (.assign (.const (.slice none 0 0))), 45, none⟩,
      ⟨some 5, (.assign (.tmp 13)), 27, none⟩])
    .ret)
    .skip)))
    (.seq (.reg [] [⟨some 14, (.move (.tmp 0)), 41, none⟩,
      ⟨some 15, (.move (.tmp 1)), 22, none⟩,
      ⟨some 16, (.call ⟨(.value (.func 60)), #[(.tmp 14), (.tmp 15)], #[41, 22]⟩), 45, none⟩,
      ⟨some 4, (.assign (.tmp 16)), 45, none⟩,
      ⟨some 5, (.assign (.const (.int .i64 0))), 27, none⟩])
    .ret)))
theorem C27 {args : List AV} {r : AV} (hn : args.length ≤ 17) (h : vc Try.prog T [] A27 (Fin T [(.tmp 4), (.tmp 5)] r) ⟨envOf 0 args, []⟩) : CallP Try.prog 27 args r :=
  callP_of tok mixed Try.func27 (by kernel_rfl) (by kernel_rfl) (by kernel_rfl : Try.f27.ntmps = 17) (by kernel_rfl : Try.f27.body.bind (strip 17 (fun _ => [])) = some A27) hn h
def A21 : ACode :=
  (.seq (.reg [] [⟨some 4, (.assign (.const (.slice none 0 0))), 45, none⟩,
      ⟨some 5, (.assign (.const (.int .i64 0))), 27, none⟩])
    (.seq (.reg [] [⟨some 9, (.move (.tmp 0)), 41, none⟩,
      ⟨some 10, (.move (.tmp 1)), 22, none⟩,
      ⟨some 11, (.call ⟨(.value (.func 56)), #[(.tmp 9), (.tmp 10)], #[41, 22]⟩), 87, none⟩,
      ⟨some 8, (.move (.tmp 11)), 87, none⟩,
      ⟨some 12, (.extract (.tmp 8) 0), 86, none⟩,
      ⟨some 13, (.extract (.tmp 8) 1), 27, none⟩,
      ⟨some 6, (.assign (.tmp 12)), 86, none⟩,
      ⟨some 7, (.assign (.tmp 13)), 27, none⟩])
    (.seq (.seq (.reg [] [⟨some 14, (.move (.tmp 7)), 27, none⟩,
      ⟨some 15, (.binOp .neq 27 (.tmp 14) (.const (.int .i64 0)) 27), 4, none⟩])
    (.cond (.tmp 15)
    (.seq (.reg [] [⟨some 16, (.move (.tmp 7)), 27, none⟩,
      ⟨some 4, (.assign (.const (.slice none 0 0))), 45, none⟩,
      ⟨some 5, (.assign (.tmp 16)), 27, none⟩])
    .ret)
    .skip))
    (.seq (.reg [] [⟨some 17, (.move (.tmp 6)), 86, none⟩,
      ⟨some 18, (.call ⟨(.value (.func 59)), #[(.tmp 17)], #[86]⟩), 45, none⟩,
      ⟨some 4, (.assign (.tmp 18)), 45, none⟩,
      ⟨some 5, (.assign (.const (.int .i64 0))), 27, none⟩])
    .ret))))
theorem C21 {args : List AV} {r : AV} (hn : args.length ≤ 19) (h : vc Try.prog T [] A21 (Fin T [(.tmp 4), (.tmp 5)] r) ⟨envOf 0 args, []⟩) : CallP Try.prog 21 args r :=
  callP_of tok mixed Try.func21 (by kernel_rfl) (by kernel_rfl) (by kernel_rfl : Try.f21.ntmps = 19) (by kernel_rfl : Try.f21.body.bind (strip 19 (fun _ => [])) = some A21) hn h
def A56 : ACode :=
  (.seq (.reg [] [⟨some 4, (.assign (.const (.pointer none))), 86, none⟩,
      ⟨some 5, (.assign (.const (.int .i64 0))), 27, none⟩])
    (.seq (.seq (.reg [] [⟨some 7, (.move (.tmp 0)), 41, none⟩,
      ⟨some 8, (.move (.tmp 1)), 22, none⟩,
      ⟨some 9, (.buildSlice 45 1 #[(0, (.tmp 8))]), 45, none⟩,
      ⟨some 10, (.call ⟨(.value (.func 67)), #[(.tmp 7), (.tmp 9)], #[41, 45]⟩), 27, none⟩,
      ⟨some 6, (.assign (.tmp 10)), 27, none⟩])
    (.seq (.reg [] [⟨some 11, (.move (.tmp 6)), 27, none⟩,
      ⟨some 12, (.binOp .neq 27 (.tmp 11) (.const (.int .i64 0)) 27), 4, none⟩])
    (.cond (.tmp 12)
    (.seq (.reg [] [⟨some 13, (.move (.tmp 6)), 27, none⟩,
      ⟨some 4, (.assign (.const (.pointer none))), 86, none⟩,
      ⟨some 5, (.assign (.tmp 13)), 27, none⟩])
    .ret)
    .skip)))
    (.seq (.reg [] [⟨some 14, (.move (.tmp 0)), 41, none⟩,
      ⟨some 15, (.move (.tmp 1)), 22, none⟩,
      ⟨some 16, (.call ⟨(.value (.func 69)), #[(.tmp 14), (.tmp 15)], #[41, 22]⟩), 87, none⟩,
      ⟨some 17, (.extract (.tmp 16) 0), 86, none⟩,
      ⟨some 18, (.extract (.tmp 16) 1), 27, none⟩,
      ⟨some 4, (.assign (.tmp 17)), 86, none⟩,
      ⟨some 5, (.assign (.tmp 18)), 27, none⟩])
    .ret)))
theorem C56 {args : List AV} {r : AV} (hn : args.length ≤ 19) (h : vc Try.prog T [] A56 (Fin T [(.tmp 4), (.tmp 5)] r) ⟨envOf 0 args, []⟩) : CallP Try.prog 56 args r :=
  callP_of tok mixed Try.func56 (by kernel_rfl) (by kernel_rfl) (by kernel_rfl : Try.f56.ntmps = 19) (by kernel_rfl : Try.f56.body.bind (strip 19 (fun _ => [])) = some A56) hn h
def A58 : ACode :=
  (.seq (.reg [] [⟨some 2, (.assign (.const (.slice none 0 0))), 45, none⟩])
    (.seq (.reg [] [⟨some 3, (.move (.tmp 0)), 45, none⟩,
      ⟨some 4, (.call ⟨(.value (.func 96)), #[(.tmp 3), (.func 97)], #[45, 103]⟩), 0, none⟩])
    (.seq (.reg [] [⟨some 5, (.move (.tmp 0)), 45, none⟩,
      ⟨some 6, (.call ⟨(.value (.func 98)), #[(.tmp 5), (.func 89)], #[45, 30]⟩), 45, none⟩,
      ⟨some 2, (.assign (.tmp 6)), 45, none⟩])
    .ret)))
theorem CL58 {pre suf : List AV} {sz : Nat} {els els' : List AV} {r : LRet} (hn : (pre ++ .sl lid 0 0 els.length :: suf).length ≤ 7) (h : vc Try.prog T [] A58 (FinL T [(.tmp 2)] sz r els') ⟨envOf 0 (pre ++ .sl lid 0 0 els.length :: suf), [(lid, some ⟨sz, els, 0, false⟩)]⟩) : CallL Try.prog 58 pre sz els suf r els' :=
  callL_of tok mixed Try.func58 (by kernel_rfl) (by kernel_rfl) (by kernel_rfl : Try.f58.ntmps = 7) (by kernel_rfl : Try.f58.body.bind (strip 7 (fun _ => [])) = some A58) hn h
def A60 : ACode :=
  (.seq (.reg [] [⟨some 4, (.assign (.const (.slice none 0 0))), 45, none⟩])
    (.seq (.reg [] [⟨some 5, (.assign (.const (.slice none 0 0))), 45, none⟩])
    (.seq (.seq (.reg [] [⟨some 8, (.move (.tmp 0)), 41, none⟩,
      ⟨some 9, (.move (.tmp 1)), 22, none⟩,
      ⟨some 10, (.call ⟨(.value (.func 68)), #[(.tmp 8), (.tmp 9)], #[41, 22]⟩), 105, none⟩,
      ⟨some 11, (.call ⟨(.builtin .len), #[(.tmp 10)], #[105]⟩), 3, none⟩,
      ⟨some 12, (.move (.const (.int .i64 0))), 3, none⟩])
    (.block 0 (.loop (.seq (.reg [] [⟨some 13, (.binOp .lss 3 (.tmp 12) (.tmp 11) 3), 0, none⟩])
    (.seq (.cond (.tmp 13)
    .skip
    (.exit 0))
    (.seq (.block 1 (.seq (.reg [] [⟨some 14, (.indexAddr 105 (.tmp 10) (.tmp 12)), 0, none⟩,
      ⟨some 15, (.load 114 (.tmp 14)), 114, none⟩,
      ⟨some 7, (.alloc 114), 0, none⟩,
      ⟨none, (.store 114 (.tmp 7) (.tmp 15)), 0, none⟩])
    (.reg [] [⟨some 16, (.move (.tmp 5)), 45, none⟩,
      ⟨some 17, (.fieldAddr 114 (.tmp 7) 1), 0, none⟩,
      ⟨some 18, (.load 22 (.tmp 17)), 22, none⟩,
      ⟨some 19, (.buildSlice 45 1 #[(0, (.tmp 18))]), 45, none⟩,
      ⟨some 20, (.call ⟨(.builtin .append), #[(.tmp 16), (.tmp 19)], #[45, 45]⟩), 45, none⟩,
      ⟨some 5, (.assign (.tmp 20)), 45, none⟩])))
    (.reg [] [⟨some 21, (.binOp .add 3 (.tmp 12) (.const (.int .i64 1)) 3), 3, none⟩,
      ⟨some 12, (.move (.tmp 21)), 3, none⟩])))))))
    (.seq (.reg [] [⟨some 22, (.move (.tmp 5)), 45, none⟩,
      ⟨some 23, (.call ⟨(.value (.func 58)), #[(.tmp 22)], #[45]⟩), 45, none⟩,
      ⟨some 4, (.assign (.tmp 23)), 45, none⟩])
    .ret))))
theorem C60 {args : List AV} {r : AV} (hn : args.length ≤ 24) (h : vc Try.prog T [] A60 (Fin T [(.tmp 4)] r) ⟨envOf 0 args, []⟩) : CallP Try.prog 60 args r :=
  callP_of tok mixed Try.func60 (by kernel_rfl) (by kernel_rfl) (by kernel_rfl : Try.f60.ntmps = 24) (by kernel_rfl : Try.f60.body.bind (strip 24 (fun _ => [])) = some A60) hn h
def A59 : ACode :=
  (.seq (.reg [] [⟨some 2, (.assign (.const (.slice none 0 0))), 45, none⟩])
    (.seq (.reg [] [⟨some 3, (.assign (.const (.slice none 0 0))), 45, none⟩])
    (.seq (.seq (.reg [] [⟨some 6, (.move (.tmp 0)), 86, none⟩,
      ⟨some 7, (.nilCheck (.tmp 6)), 0, none⟩,
      ⟨some 8, (.fieldAddr 93 (.tmp 7) 1), 0, none⟩,
      ⟨some 9, (.load 45 (.tmp 8)), 45, none⟩,
      ⟨some 10, (.call ⟨(.builtin .len), #[(.tmp 9)], #[45]⟩), 3, none⟩,
      ⟨some 11, (.move (.const (.int .i64 0))), 3, none⟩])
    (.block 0 (.loop (.seq (.reg [] [⟨some 12, (.binOp .lss 3 (.tmp 11) (.tmp 10) 3), 0, none⟩])
    (.seq (.cond (.tmp 12)
    .skip
    (.exit 0))
    (.seq (.block 1 (.seq (.reg [] [⟨some 13, (.indexAddr 45 (.tmp 9) (.tmp 11)), 0, none⟩,
      ⟨some 14, (.load 22 (.tmp 13)), 22, none⟩,
      ⟨some 5, (.assign (.tmp 14)), 22, none⟩])
    (.seq (.reg [] [⟨some 15, (.move (.tmp 0)), 86, none⟩,
      ⟨some 16, (.nilCheck (.tmp 15)), 0, none⟩,
      ⟨some 17, (.fieldAddr 93 (.tmp 16) 0), 0, none⟩,
      ⟨some 18, (.load 41 (.tmp 17)), 41, none⟩,
      ⟨some 19, (.move (.tmp 5)), 22, none⟩,
      ⟨some 20, (.call ⟨(.value (.func 68)), #[(.tmp 18), (.tmp 19)], #[41, 22]⟩), 105, none⟩,
      ⟨some 21, (.call ⟨(.builtin .len), #[(.tmp 20)], #[105]⟩), 3, none⟩,
      ⟨some 22, (.binOp .eql 3 (.tmp 21) (.const (.int .i64 0)) 3), 4, none⟩])
    (.cond (.tmp 22)
    (.reg [] [⟨some 23, (.move (.tmp 3)), 45, none⟩,
      ⟨some 24, (.move (.tmp 5)), 22, none⟩,
      ⟨some 25, (.call ⟨(.value (.func 50)), #[(.tmp 24)], #[22]⟩), 22, none⟩,
      ⟨some 26, (.buildSlice 45 1 #[(0, (.tmp 25))]), 45, none⟩,
      ⟨some 27, (.call ⟨(.builtin .append), #[(.tmp 23), (.tmp 26)], #[45, 45]⟩), 45, none⟩,
      ⟨some 3, (.assign (.tmp 27)), 45, none⟩])
    .skip))))
    (.reg [] [⟨some 28, (.binOp .add 3 (.tmp 11) (.const (.int .i64 1)) 3), 3, none⟩,
      ⟨some 11, (.move (.tmp 28)), 3, none⟩])))))))
    (.seq (.reg [] [⟨some 29, (.move (.tmp 3)), 45, none⟩,
      ⟨some 30, (.call ⟨(.value (.func 58)), #[(.tmp 29)], #[45]⟩), 45, none⟩,
      ⟨some 2, (.assign (.tmp 30)), 45, none⟩])
    .ret))))
theorem C59 {args : List AV} {r : AV} (hn : args.length ≤ 31) (h : vc Try.prog T [] A59 (Fin T [(.tmp 2)] r) ⟨envOf 0 args, []⟩) : CallP Try.prog 59 args r :=
  callP_of tok mixed Try.func59 (by kernel_rfl) (by kernel_rfl) (by kernel_rfl : Try.f59.ntmps = 31) (by kernel_rfl : Try.f59.body.bind (strip 31 (fun _ => [])) = some A59) hn h
def A61 : ACode :=
  (.seq (.reg [] [⟨some 2, (.assign (.const (.string ⟨#[]⟩))), 9, none⟩])
    (.seq (.reg [] [⟨some 3, (.assign (.const (.slice none 0 0))), 136, none⟩])
    (.seq (.seq (.reg [] [⟨some 6, (.move (.tmp 0)), 22, none⟩,
      ⟨some 7, (.call ⟨(.builtin .len), #[(.tmp 6)], #[22]⟩), 3, none⟩,
      ⟨some 8, (.move (.const (.int .i64 0))), 3, none⟩])
    (.block 0 (.loop (.seq (.reg [] [⟨some 9, (.binOp .lss 3 (.tmp 8) (.tmp 7) 3), 0, none⟩])
    (.seq (.cond (.tmp 9)
    .skip
    (.exit 0))
    (.seq (.block 1 (.seq (.reg [] [⟨some 10, (.indexAddr 22 (.tmp 6) (.tmp 8)), 0, none⟩,
      ⟨some 11, (.load 3 (.tmp 10)), 3, none⟩,
      ⟨some 5, (.assign (.tmp 11)), 3, none⟩])
    (.reg [] [⟨some 12, (.move (.tmp 3)), 136, none⟩,
      ⟨some 13, (.move (.tmp 5)), 3, none⟩,
      ⟨some 14, (.binOp .add 3 (.const (.int .i64 48)) (.tmp 13) 3), 3, none⟩,
      ⟨some 15, (.convert 3 5 (.tmp 14)), 5, none⟩,
      ⟨some 16, (.buildSlice 136 1 #[(0, (.tmp 15))]), 136, none⟩,
      ⟨some 17, (.call ⟨(.builtin .append), #[(.tmp 12), (.tmp 16)], #[136, 136]⟩), 136, none⟩,
      ⟨some 3, (.assign (.tmp 17)), 136, none⟩])))
    (.reg [] [⟨some 18, (.binOp .add 3 (.tmp 8) (.const (.int .i64 1)) 3), 3, none⟩,
      ⟨some 8, (.move (.tmp 18)), 3, none⟩])))))))
    (.seq (.reg [] [⟨some 19, (.move (.tmp 3)), 136, none⟩,
      ⟨some 20, (.convert 136 9 (.tmp 19)), 9, none⟩,
      ⟨some 2, (.assign (.tmp 20)), 9, none⟩])
    .ret))))
theorem C61 {args : List AV} {r : AV} (hn : args.length ≤ 21) (h : vc Try.prog T [] A61 (Fin T [(.tmp 2)] r) ⟨envOf 0 args, []⟩) : CallP Try.prog 61 args r :=
  callP_of tok mixed Try.func61 (by kernel_rfl) (by kernel_rfl) (by kernel_rfl : Try.f61.ntmps = 21) (by kernel_rfl : Try.f61.body.bind (strip 21 (fun _ => [])) = some A61) hn h
def A69 : ACode :=
  (.seq (.reg [] [⟨some 4, (.assign (.const (.pointer none))), 86, none⟩,
      ⟨some 5, (.assign (.const (.int .i64 0))), 27, none⟩])
    (.seq (.reg [] [⟨some 12, (.move (.tmp 0)), 41, none⟩,
      ⟨some 13, (.move (.tmp 1)), 22, none⟩,
      ⟨some 14, (.buildSlice 45 1 #[(0, (.tmp 13))]), 45, none⟩,
      ⟨some 15, (.makeMap 91 none), 91, none⟩,
      ⟨some 16, (.move (.tmp 1)), 22, none⟩,
      ⟨some 17, (.call ⟨(.value (.func 61)), #[(.tmp 16)], #[22]⟩), 9, none⟩,
      ⟨none, (.insert 91 (.tmp 15) (.tmp 17) (.const (.int .i64 0))), 0, none⟩,
      ⟨some 18, (.move (.tmp 15)), 91, none⟩,
      ⟨some 19, (.buildSlice 22 1 #[(0, (.const (.int .i64 (-1))))]), 22, none⟩,
      ⟨some 20, (.build 108 #[]), 108, none⟩,
      ⟨some 21, (.buildSlice 55 1 #[(0, (.tmp 20))]), 55, none⟩,
      ⟨some 22, (.build 93 #[(0, (.tmp 12)), (1, (.tmp 14)), (2, (.tmp 18)), (3, (.tmp 19)), (4, (.tmp 21))]), 93, none⟩,
      ⟨some 23, (.box 93 (.tmp 22)), 86, none⟩,
      ⟨some 6, (.assign (.tmp 23)), 86, none⟩])
    (.seq (.seq (.reg [] [⟨some 7, (.assign (.const (.int .i64 0))), 3, none⟩])
    (.block 0 (.loop (.seq (.seq (.reg [] [⟨some 24, (.move (.tmp 7)), 3, none⟩,
      ⟨some 25, (.move (.tmp 6)), 86, none⟩,
      ⟨some 26, (.nilCheck (.tmp 25)), 0, none⟩,
      ⟨some 27, (.fieldAddr 93 (.tmp 26) 1), 0, none⟩,
      ⟨some 28, (.load 45 (.tmp 27)), 45, none⟩,
      ⟨some 29, (.call ⟨(.builtin .len), #[(.tmp 28)], #[45]⟩), 3, none⟩,
      ⟨some 30, (.binOp .lss 3 (.tmp 24) (.tmp 29) 3), 4, none⟩])
    (.cond (.tmp 30)
    .skip
    (.exit 0)))
    (.seq (.block 1 (.seq (.reg [] [⟨some 33, (.move (.tmp 0)), 41, none⟩,
      ⟨some 34, (.move (.tmp 6)), 86, none⟩,
      ⟨some 35, (.nilCheck (.tmp 34)), 0, none⟩,
      ⟨some 36, (.fieldAddr 93 (.tmp 35) 1), 0, none⟩,
      ⟨some 37, (.load 45 (.tmp 36)), 45, none⟩,
      ⟨some 38, (.move (.tmp 7)), 3, none⟩,
      ⟨some 39, (.indexAddr 45 (.tmp 37) (.tmp 38)), 0, none⟩,
      ⟨some 40, (.load 22 (.tmp 39)), 22, none⟩,
      ⟨some 41, (.call ⟨(.value (.func 68)), #[(.tmp 33), (.tmp 40)], #[41, 22]⟩), 105, none⟩,
      ⟨some 42, (.call ⟨(.builtin .len), #[(.tmp 41)], #[105]⟩), 3, none⟩,
      ⟨some 43, (.move (.const (.int .i64 0))), 3, none⟩])
    (.block 2 (.loop (.seq (.reg [] [⟨some 44, (.binOp .lss 3 (.tmp 43) (.tmp 42) 3), 0, none⟩])
    (.seq (.cond (.tmp 44)
    .skip
    (.exit 2))
    (.seq (.block 3 (.seq (.reg [] [⟨some 45, (.indexAddr 105 (.tmp 41) (.tmp 43)), 0, none⟩,
      ⟨some 46, (.load 114 (.tmp 45)), 114, none⟩,
      ⟨some 9, (.alloc 114), 0, none⟩,
      ⟨none, (.store 114 (.tmp 9) (.tmp 46)), 0, none⟩])
    (.seq (.seq (.draw [] [⟨some 48, (.move (.tmp 6)), 86, none⟩,
      ⟨some 49, (.nilCheck (.tmp 48)), 0, none⟩,
      ⟨some 50, (.fieldAddr 93 (.tmp 49) 2), 0, none⟩,
      ⟨some 51, (.load 91 (.tmp 50)), 91, none⟩,
      ⟨some 52, (.fieldAddr 114 (.tmp 9) 1), 0, none⟩,
      ⟨some 53, (.load 22 (.tmp 52)), 22, none⟩,
      ⟨some 54, (.call ⟨(.value (.func 61)), #[(.tmp 53)], #[22]⟩), 9, none⟩,
      ⟨some 55, (.lookup 91 (.tmp 51) (.tmp 54) true), 89, none⟩,
      ⟨some 47, (.move (.tmp 55)), 89, none⟩,
      ⟨some 56, (.extract (.tmp 47) 0), 3, none⟩,
      ⟨some 57, (.extract (.tmp 47) 1), 4, none⟩,
      ⟨some 10, (.assign (.tmp 56)), 3, none⟩,
      ⟨some 11, (.assign (.tmp 57)), 4, none⟩] [(0, 4), (1, 4), (2, 4), (3, 4), (0, 5), (1, 5), (2, 5), (3, 5), (0, 6), (1, 6), (2, 6), (3, 6), (9, 10), (10, 11)])
    (.seq (.reg [] [⟨some 58, (.move (.tmp 11)), 4, none⟩])
    (.cond (.tmp 58)
    (.exit 3)
    .skip)))
    (.seq (.seq (.reg [] [⟨some 59, (.move (.tmp 6)), 86, none⟩,
      ⟨some 60, (.nilCheck (.tmp 59)), 0, none⟩,
      ⟨some 61, (.fieldAddr 93 (.tmp 60) 1), 0, none⟩,
      ⟨some 62, (.load 45 (.tmp 61)), 45, none⟩,
      ⟨some 63, (.call ⟨(.builtin .len), #[(.tmp 62)], #[45]⟩), 3, none⟩,
      ⟨some 64, (.binOp .eql 3 (.tmp 63) (.const (.int .i64 300)) 3), 4, none⟩])
    (.cond (.tmp 64)
    (.seq (.reg [] [⟨some 4, (.assign (.const (.pointer none))), 86, none⟩,
      ⟨some 5, (.assign (.const (.int .i64 3))), 27, none⟩])
    .ret)
    .skip))
    (.seq (.draw [] [⟨some 65, (.move (.tmp 6)), 86, none⟩,
      ⟨some 66, (.nilCheck (.tmp 65)), 0, none⟩,
      ⟨some 67, (.fieldAddr 93 (.tmp 66) 2), 0, none⟩,
      ⟨some 68, (.load 91 (.tmp 67)), 91, none⟩,
      ⟨some 69, (.fieldAddr 114 (.tmp 9) 1), 0, none⟩,
      ⟨some 70, (.load 22 (.tmp 69)), 22, none⟩,
      ⟨some 71, (.call ⟨(.value (.func 61)), #[(.tmp 70)], #[22]⟩), 9, none⟩,
      ⟨some 72, (.move (.tmp 6)), 86, none⟩,
      ⟨some 73, (.nilCheck (.tmp 72)), 0, none⟩,
      ⟨some 74, (.fieldAddr 93 (.tmp 73) 1), 0, none⟩,
      ⟨some 75, (.load 45 (.tmp 74)), 45, none⟩,
      ⟨some 76, (.call ⟨(.builtin .len), #[(.tmp 75)], #[45]⟩), 3, none⟩,
      ⟨none, (.mapUpdate 91 (.tmp 68) (.tmp 71) (.tmp 76)), 0, none⟩] [(0, 4), (1, 4), (2, 4), (3, 4), (0, 5), (1, 5), (2, 5), (3, 5), (0, 6), (1, 6), (2, 6), (3, 6), (0, 7), (1, 7), (2, 7), (3, 7), (4, 7), (5, 7), (6, 7), (0, 8), (1, 8), (2, 8), (3, 8), (4, 8), (5, 8), (6, 8), (0, 9), (1, 9), (2, 9), (3, 9), (4, 9), (5, 9), (6, 9), (0, 10), (1, 10), (2, 10), (3, 10), (4, 10), (5, 10), (6, 10), (0, 11), (1, 11), (2, 11), (3, 11), (4, 11), (5, 11), (6, 11)])
    (.draw [] [⟨some 77, (.move (.tmp 6)), 86, none⟩,
      ⟨some 78, (.move (.tmp 6)), 86, none⟩,
      ⟨some 79, (.move (.tmp 6)), 86, none⟩,
      ⟨some 80, (.move (.tmp 6)), 86, none⟩,
      ⟨some 81, (.nilCheck (.tmp 80)), 0, none⟩,
      ⟨some 82, (.fieldAddr 93 (.tmp 81) 1), 0, none⟩,
      ⟨some 83, (.load 45 (.tmp 82)), 45, none⟩,
      ⟨some 84, (.fieldAddr 114 (.tmp 9) 1), 0, none⟩,
      ⟨some 85, (.load 22 (.tmp 84)), 22, none⟩,
      ⟨some 86, (.buildSlice 45 1 #[(0, (.tmp 85))]), 45, none⟩,
      ⟨some 87, (.call ⟨(.builtin .append), #[(.tmp 83), (.tmp 86)], #[45, 45]⟩), 45, none⟩,
      ⟨some 88, (.move (.tmp 6)), 86, none⟩,
      ⟨some 89, (.nilCheck (.tmp 88)), 0, none⟩,
      ⟨some 90, (.fieldAddr 93 (.tmp 89) 3), 0, none⟩,
      ⟨some 91, (.load 22 (.tmp 90)), 22, none⟩,
      ⟨some 92, (.move (.tmp 7)), 3, none⟩,
      ⟨some 93, (.buildSlice 22 1 #[(0, (.tmp 92))]), 22, none⟩,
      ⟨some 94, (.call ⟨(.builtin .append), #[(.tmp 91), (.tmp 93)], #[22, 22]⟩), 22, none⟩,
      ⟨some 95, (.move (.tmp 6)), 86, none⟩,
      ⟨some 96, (.nilCheck (.tmp 95)), 0, none⟩,
      ⟨some 97, (.fieldAddr 93 (.tmp 96) 4), 0, none⟩,
      ⟨some 98, (.load 55 (.tmp 97)), 55, none⟩,
      ⟨some 99, (.fieldAddr 114 (.tmp 9) 0), 0, none⟩,
      ⟨some 100, (.load 108 (.tmp 99)), 108, none⟩,
      ⟨some 101, (.buildSlice 55 1 #[(0, (.tmp 100))]), 55, none⟩,
      ⟨some 102, (.call ⟨(.builtin .append), #[(.tmp 98), (.tmp 101)], #[55, 55]⟩), 55, none⟩,
      ⟨some 103, (.nilCheck (.tmp 77)), 0, none⟩,
      ⟨some 104, (.fieldAddr 93 (.tmp 103) 1), 0, none⟩,
      ⟨none, (.store 45 (.tmp 104) (.tmp 87)), 0, none⟩,
      ⟨some 105, (.nilCheck (.tmp 78)), 0, none⟩,
      ⟨some 106, (.fieldAddr 93 (.tmp 105) 3), 0, none⟩,
      ⟨none, (.store 22 (.tmp 106) (.tmp 94)), 0, none⟩,
      ⟨some 107, (.nilCheck (.tmp 79)), 0, none⟩,
      ⟨some 108, (.fieldAddr 93 (.tmp 107) 4), 0, none⟩,
      ⟨none, (.store 55 (.tmp 108) (.tmp 102)), 0, none⟩] [(0, 1), (0, 2), (1, 2), (0, 3), (1, 3), (2, 3), (0, 4), (1, 4), (2, 4), (0, 5), (1, 5), (2, 5), (0, 6), (1, 6), (2, 6), (0, 7), (1, 7), (2, 7), (3, 7), (4, 7), (5, 7), (6, 7), (0, 8), (1, 8), (2, 8), (3, 8), (4, 8), (5, 8), (6, 8), (0, 9), (1, 9), (2, 9), (3, 9), (4, 9), (5, 9), (6, 9), (0, 10), (1, 10), (2, 10), (0, 11), (1, 11), (2, 11), (3, 11), (4, 11), (5, 11), (6, 11), (7, 11), (8, 11), (9, 11), (10, 11), (0, 12), (1, 12), (2, 12), (3, 12), (4, 12), (5, 12), (6, 12), (7, 12), (8, 12), (9, 12), (10, 12), (0, 13), (1, 13), (2, 13), (3, 13), (4, 13), (5, 13), (6, 13), (7, 13), (8, 13), (9, 13), (10, 13), (0, 14), (1, 14), (2, 14), (3, 14), (4, 14), (5, 14), (6, 14), (7, 14), (8, 14), (9, 14), (10, 14), (0, 15), (1, 15), (2, 15), (3, 15), (4, 15), (5, 15), (6, 15), (7, 15), (8, 15), (9, 15), (10, 15), (11, 15), (12, 15), (13, 15), (14, 15), (0, 16), (1, 16), (2, 16), (3, 16), (4, 16), (5, 16), (6, 16), (7, 16), (8, 16), (9, 16), (10, 16), (11, 16), (12, 16), (13, 16), (14, 16), (0, 17), (1, 17), (2, 17), (0, 18), (1, 18), (2, 18), (3, 18), (4, 18), (5, 18), (6, 18), (7, 18), (8, 18), (9, 18), (10, 18), (11, 18), (12, 18), (13, 18), (14, 18), (15, 18), (16, 18), (17, 18), (0, 19), (1, 19), (2, 19), (3, 19), (4, 19), (5, 19), (6, 19), (7, 19), (8, 19), (9, 19), (10, 19), (11, 19), (12, 19), (13, 19), (14, 19), (15, 19), (16, 19), (17, 19), (0, 20), (1, 20), (2, 20), (3, 20), (4, 20), (5, 20), (6, 20), (7, 20), (8, 20), (9, 20), (10, 20), (11, 20), (12, 20), (13, 20), (14, 20), (15, 20), (16, 20), (17, 20), (0, 21), (1, 21), (2, 21), (3, 21), (4, 21), (5, 21), (6, 21), (7, 21), (8, 21), (9, 21), (10, 21), (11, 21), (12, 21), (13, 21), (14, 21), (15, 21), (16, 21), (17, 21), (0, 22), (1, 22), (2, 22), (3, 22), (4, 22), (5, 22), (6, 22), (7, 22), (8, 22), (9, 22), (10, 22), (11, 22), (12, 22), (13, 22), (14, 22), (15, 22), (16, 22), (17, 22), (18, 22), (19, 22), (20, 22), (21, 22), (0, 23), (1, 23), (2, 23), (3, 23), (4, 23), (5, 23), (6, 23), (7, 23), (8, 23), (9, 23), (10, 23), (11, 23), (12, 23), (13, 23), (14, 23), (15, 23), (16, 23), (17, 23), (18, 23), (19, 23), (20, 23), (21, 23), (0, 24), (1, 24), (2, 24), (3, 24), (4, 24), (5, 24), (6, 24), (7, 24), (8, 24), (9, 24), (10, 24), (11, 24), (12, 24), (13, 24), (14, 24), (15, 24), (16, 24), (17, 24), (18, 24), (19, 24), (20, 24), (21, 24), (0, 25), (1, 25), (2, 25), (1, 26), (2, 26), (1, 27), (2, 27), (1, 28), (2, 28), (2, 29), (2, 30), (2, 31)]))))))
    (.reg [] [⟨some 109, (.binOp .add 3 (.tmp 43) (.const (.int .i64 1)) 3), 3, none⟩,
      ⟨some 43, (.move (.tmp 109)), 3, none⟩]))))))))
    (.reg [] [⟨some 31, (.move (.tmp 7)), 3, none⟩,
      ⟨some 32, (.binOp .add 3 (.tmp 31) (.const (.int .i64 1)) 3), 3, none⟩,
      ⟨some 7, (.assign (.tmp 32)), 3, none⟩]))))))
    (.seq (.reg [] [⟨some 110, (.move (.tmp 6)), 86, none⟩,
      ⟨some 4, (.assign (.tmp 110)), 86, none⟩,
      ⟨some 5, (.assign (.const (.int .i64 0))), 27, none⟩])
    .ret))))
def A97 : ACode :=
  (.seq (.reg [] [⟨some 4, (.assign (.const (.int .i64 0))), 3, none⟩])
    (.seq (.seq (.reg [] [⟨some 9, (.move (.tmp 0)), 22, none⟩,
      ⟨some 10, (.call ⟨(.builtin .len), #[(.tmp 9)], #[22]⟩), 3, none⟩,
      ⟨some 11, (.move (.const (.int .i64 0))), 3, none⟩])
    (.block 0 (.loop (.seq (.reg [] [⟨some 12, (.binOp .lss 3 (.tmp 11) (.tmp 10) 3), 0, none⟩])
    (.seq (.cond (.tmp 12)
    .skip
    (.exit 0))
    (.seq (.block 1 (.seq (.reg [] [⟨some 13, (.move (.tmp 11)), 3, none⟩,
      ⟨some 14, (.indexAddr 22 (.tmp 9) (.tmp 11)), 0, none⟩,
      ⟨some 15, (.load 3 (.tmp 14)), 3, none⟩,
      ⟨some 5, (.assign (.tmp 13)), 3, none⟩,
      ⟨some 6, (.assign (.tmp 15)), 3, none⟩])
    (.seq (.seq (.reg [] [⟨some 16, (.move (.tmp 5)), 3, none⟩,
      ⟨some 17, (.move (.tmp 1)), 22, none⟩,
      ⟨some 18, (.call ⟨(.builtin .len), #[(.tmp 17)], #[22]⟩), 3, none⟩,
      ⟨some 19, (.binOp .geq 3 (.tmp 16) (.tmp 18) 3), 4, none⟩])
    (.cond (.tmp 19)
    (.seq (.reg [] [⟨some 4, (.assign (.const (.int .i64 1))), 3, none⟩])
    .ret)
    .skip))
    (.seq (.reg [] [⟨some 20, (.move (.tmp 1)), 22, none⟩,
      ⟨some 21, (.move (.tmp 5)), 3, none⟩,
      ⟨some 22, (.indexAddr 22 (.tmp 20) (.tmp 21)), 0, none⟩,
      ⟨some 23, (.load 3 (.tmp 22)), 3, none⟩,
      ⟨some 7, (.assign (.tmp 23)), 3, none⟩])
    (.seq (.reg [] [⟨some 24, (.move (.tmp 6)), 3, none⟩,
      ⟨some 25, (.move (.tmp 7)), 3, none⟩,
      ⟨some 26, (.call ⟨(.value (.func 114)), #[(.tmp 24), (.tmp 25)], #[3, 3]⟩), 3, none⟩,
      ⟨some 8, (.assign (.tmp 26)), 3, none⟩])
    (.seq (.reg [] [⟨some 27, (.move (.tmp 8)), 3, none⟩,
      ⟨some 28, (.binOp .neq 3 (.tmp 27) (.const (.int .i64 0)) 3), 4, none⟩])
    (.cond (.tmp 28)
    (.seq (.reg [] [⟨some 29, (.move (.tmp 8)), 3, none⟩,
      ⟨some 4, (.assign (.tmp 29)), 3, none⟩])
    .ret)
    .skip)))))))
    (.reg [] [⟨some 30, (.binOp .add 3 (.tmp 11) (.const (.int .i64 1)) 3), 3, none⟩,
      ⟨some 11, (.move (.tmp 30)), 3, none⟩])))))))
    (.seq (.seq (.reg [] [⟨some 31, (.move (.tmp 0)), 22, none⟩,
      ⟨some 32, (.call ⟨(.builtin .len), #[(.tmp 31)], #[22]⟩), 3, none⟩,
      ⟨some 33, (.move (.tmp 1)), 22, none⟩,
      ⟨some 34, (.call ⟨(.builtin .len), #[(.tmp 33)], #[22]⟩), 3, none⟩,
      ⟨some 35, (.binOp .lss 3 (.tmp 32) (.tmp 34) 3), 4, none⟩])
    (.cond (.tmp 35)
    (.seq (.reg [] [⟨some 4, (.assign (.const (.int .i64 (-1)))), 3, none⟩])
    .ret)
    .skip))
    (.seq (.reg [] [⟨some 4, (.assign (.const (.int .i64 0))), 3, none⟩])
    .ret))))
theorem C97 {args : List AV} {r : AV} (hn : args.length ≤ 36) (h : vc Try.prog T [] A97 (Fin T [(.tmp 4)] r) ⟨envOf 0 args, []⟩) : CallP Try.prog 97 args r :=
  callP_of tok mixed Try.func97 (by kernel_rfl) (by kernel_rfl) (by kernel_rfl : Try.f97.ntmps = 36) (by kernel_rfl : Try.f97.body.bind (strip 36 (fun _ => [])) = some A97) hn h
def A98 : ACode :=
  (.seq (.reg [] [⟨some 4, (.assign (.const (.slice none 0 0))), 45, none⟩])
    (.seq (.seq (.reg [] [⟨some 8, (.move (.tmp 0)), 45, none⟩,
      ⟨some 9, (.call ⟨(.builtin .len), #[(.tmp 8)], #[45]⟩), 3, none⟩,
      ⟨some 10, (.binOp .lss 3 (.tmp 9) (.const (.int .i64 2)) 3), 4, none⟩])
    (.cond (.tmp 10)
    (.seq (.reg [] [⟨some 11, (.move (.tmp 0)), 45, none⟩,
      ⟨some 4, (.assign (.tmp 11)), 45, none⟩])
    .ret)
    .skip))
    (.seq (.seq (.reg [] [⟨some 5, (.assign (.const (.int .i64 1))), 3, none⟩])
    (.block 0 (.loop (.seq (.seq (.reg [] [⟨some 12, (.move (.tmp 5)), 3, none⟩,
      ⟨some 13, (.move (.tmp 0)), 45, none⟩,
      ⟨some 14, (.call ⟨(.builtin .len), #[(.tmp 13)], #[45]⟩), 3, none⟩,
      ⟨some 15, (.binOp .lss 3 (.tmp 12) (.tmp 14) 3), 4, none⟩])
    (.cond (.tmp 15)
    .skip
    (.exit 0)))
    (.seq (.block 1 (.seq (.draw [] [⟨some 18, (.move (.tmp 1)), 30, none⟩,
      ⟨some 19, (.move (.tmp 0)), 45, none⟩,
      ⟨some 20, (.move (.tmp 5)), 3, none⟩,
      ⟨some 21, (.indexAddr 45 (.tmp 19) (.tmp 20)), 0, none⟩,
      ⟨some 22, (.load 22 (.tmp 21)), 22, none⟩,
      ⟨some 23, (.move (.tmp 0)), 45, none⟩,
      ⟨some 24, (.move (.tmp 5)), 3, none⟩,
      ⟨some 25, (.binOp .sub 3 (.tmp 24) (.const (.int .i64 1)) 3), 3, none⟩,
      ⟨some 26, (.indexAddr 45 (.tmp 23) (.tmp 25)), 0, none⟩,
      ⟨some 27, (.load 22 (.tmp 26)), 22, none⟩,
      ⟨some 28, (.call ⟨(.value (.tmp 18)), #[(.tmp 22), (.tmp 27)], #[22, 22]⟩), 4, none⟩] [(0, 1), (0, 2), (1, 2), (0, 3), (0, 4), (0, 5), (1, 5), (2, 5), (3, 5), (4, 5), (0, 6), (1, 6), (2, 6), (3, 6), (4, 6), (5, 6), (0, 7), (1, 7), (2, 7), (3, 7), (4, 7), (5, 7), (0, 8), (1, 8), (2, 8), (3, 8), (4, 8), (0, 9), (1, 9), (2, 9), (3, 9), (4, 9)])
    (.cond (.tmp 28)
    (.seq (.reg [] [⟨some 29, (.move (.tmp 0)), 45, none⟩,
      ⟨some 30, (.move (.tmp 5)), 3, none⟩,
      ⟨some 31, (.slice 45 (.tmp 29) (some (.tmp 30)) none none), 45, none⟩,
      ⟨some 6, (.assign (.tmp 31)), 45, none⟩])
    (.seq (.seq (.reg [] [⟨some 7, (.assign (.const (.int .i64 1))), 3, none⟩])
    (.block 2 (.loop (.seq (.seq (.reg [] [⟨some 32, (.move (.tmp 7)), 3, none⟩,
      ⟨some 33, (.move (.tmp 6)), 45, none⟩,
      ⟨some 34, (.call ⟨(.builtin .len), #[(.tmp 33)], #[45]⟩), 3, none⟩,
      ⟨some 35, (.binOp .lss 3 (.tmp 32) (.tmp 34) 3), 4, none⟩])
    (.cond (.tmp 35)
    .skip
    (.exit 2)))
    (.seq (.block 3 (.seq (.draw [] [⟨some 38, (.move (.tmp 1)), 30, none⟩,
      ⟨some 39, (.move (.tmp 6)), 45, none⟩,
      ⟨some 40, (.move (.tmp 7)), 3, none⟩,
      ⟨some 41, (.indexAddr 45 (.tmp 39) (.tmp 40)), 0, none⟩,
      ⟨some 42, (.load 22 (.tmp 41)), 22, none⟩,
      ⟨some 43, (.move (.tmp 6)), 45, none⟩,
      ⟨some 44, (.move (.tmp 7)), 3, none⟩,
      ⟨some 45, (.binOp .sub 3 (.tmp 44) (.const (.int .i64 1)) 3), 3, none⟩,
      ⟨some 46, (.indexAddr 45 (.tmp 43) (.tmp 45)), 0, none⟩,
      ⟨some 47, (.load 22 (.tmp 46)), 22, none⟩,
      ⟨some 48, (.call ⟨(.value (.tmp 38)), #[(.tmp 42), (.tmp 47)], #[22, 22]⟩), 4, none⟩,
      ⟨some 49, (.unOp .not 4 (.tmp 48)), 4, none⟩] [(0, 1), (0, 2), (1, 2), (0, 3), (0, 4), (0, 5), (1, 5), (2, 5), (3, 5), (4, 5), (0, 6), (1, 6), (2, 6), (3, 6), (4, 6), (5, 6), (0, 7), (1, 7), (2, 7), (3, 7), (4, 7), (5, 7), (0, 8), (1, 8), (2, 8), (3, 8), (4, 8), (0, 9), (1, 9), (2, 9), (3, 9), (4, 9)])
    (.cond (.tmp 49)
    (.seq (.reg [] [⟨some 50, (.move (.tmp 0)), 45, none⟩,
      ⟨some 51, (.move (.tmp 5)), 3, none⟩,
      ⟨some 52, (.move (.tmp 6)), 45, none⟩,
      ⟨some 53, (.move (.tmp 7)), 3, none⟩,
      ⟨some 54, (.indexAddr 45 (.tmp 52) (.tmp 53)), 0, none⟩,
      ⟨some 55, (.load 22 (.tmp 54)), 22, none⟩,
      ⟨some 56, (.indexAddr 45 (.tmp 50) (.tmp 51)), 0, none⟩,
      ⟨none, (.store 22 (.tmp 56) (.tmp 55)), 0, none⟩])
    (.reg [] [⟨some 57, (.move (.tmp 5)), 3, none⟩,
      ⟨some 58, (.binOp .add 3 (.tmp 57) (.const (.int .i64 1)) 3), 3, none⟩,
      ⟨some 5, (.assign (.tmp 58)), 3, none⟩]))
    .skip)))
    (.reg [] [⟨some 36, (.move (.tmp 7)), 3, none⟩,
      ⟨some 37, (.binOp .add 3 (.tmp 36) (.const (.int .i64 1)) 3), 3, none⟩,
      ⟨some 7, (.assign (.tmp 37)), 3, none⟩]))))))
    (.seq (.reg [] [⟨some 59, (.move (.tmp 0)), 45, none⟩,
      ⟨some 60, (.move (.tmp 5)), 3, none⟩,
      ⟨some 61, (.slice 45 (.tmp 59) (some (.tmp 60)) none none), 45, none⟩,
      ⟨none, (.call ⟨(.builtin .clear), #[(.tmp 61)], #[45]⟩), 0, none⟩])
    (.seq (.reg [] [⟨some 62, (.move (.tmp 0)), 45, none⟩,
      ⟨some 63, (.move (.tmp 5)), 3, none⟩,
      ⟨some 64, (.slice 45 (.tmp 62) none (some (.tmp 63)) none), 45, none⟩,
      ⟨some 4, (.assign (.tmp 64)), 45, none⟩])
    .ret))))
    .skip)))
    (.reg [] [⟨some 16, (.move (.tmp 5)), 3, none⟩,
      ⟨some 17, (.binOp .add 3 (.tmp 16) (.const (.int .i64 1)) 3), 3, none⟩,
      ⟨some 5, (.assign (.tmp 17)), 3, none⟩]))))))
    (.seq (.reg [] [⟨some 65, (.move (.tmp 0)), 45, none⟩,
      ⟨some 4, (.assign (.tmp 65)), 45, none⟩])
    .ret))))
theorem CL98 {pre suf : List AV} {sz : Nat} {els els' : List AV} {r : LRet} (hn : (pre ++ .sl lid 0 0 els.length :: suf).length ≤ 66) (h : vc Try.prog T [] A98 (FinL T [(.tmp 4)] sz r els') ⟨envOf 0 (pre ++ .sl lid 0 0 els.length :: suf), [(lid, some ⟨sz, els, 0, false⟩)]⟩) : CallL Try.prog 98 pre sz els suf r els' :=
  callL_of tok mixed Try.func98 (by kernel_rfl) (by kernel_rfl) (by kernel_rfl : Try.f98.ntmps = 66) (by kernel_rfl : Try.f98.body.bind (strip 66 (fun _ => [])) = some A98) hn h
def A114 : ACode :=
  (.seq (.reg [] [⟨some 4, (.assign (.const (.int .i64 0))), 3, none⟩])
    (.seq (.reg [] [⟨some 7, (.move (.tmp 0)), 3, none⟩,
      ⟨some 8, (.call ⟨(.value (.func 132)), #[(.tmp 7)], #[3]⟩), 4, none⟩,
      ⟨some 5, (.assign (.tmp 8)), 4, none⟩])
    (.seq (.reg [] [⟨some 9, (.move (.tmp 1)), 3, none⟩,
      ⟨some 10, (.call ⟨(.value (.func 132)), #[(.tmp 9)], #[3]⟩), 4, none⟩,
      ⟨some 6, (.assign (.tmp 10)), 4, none⟩])
    (.seq (.seq (.reg [] [⟨some 11, (.move (.tmp 5)), 4, none⟩])
    (.cond (.tmp 11)
    (.seq (.seq (.reg [] [⟨some 12, (.move (.tmp 6)), 4, none⟩])
    (.cond (.tmp 12)
    (.seq (.reg [] [⟨some 4, (.assign (.const (.int .i64 0))), 3, none⟩])
    .ret)
    .skip))
    (.seq (.reg [] [⟨some 4, (.assign (.const (.int .i64 (-1)))), 3, none⟩])
    .ret))
    .skip))
    (.seq (.seq (.reg [] [⟨some 13, (.move (.tmp 6)), 4, none⟩])
    (.cond (.tmp 13)
    (.seq (.reg [] [⟨some 4, (.assign (.const (.int .i64 1))), 3, none⟩])
    .ret)
    .skip))
    (.seq (.seq (.reg [] [⟨some 14, (.move (.tmp 0)), 3, none⟩,
      ⟨some 15, (.move (.tmp 1)), 3, none⟩,
      ⟨some 16, (.binOp .lss 3 (.tmp 14) (.tmp 15) 3), 4, none⟩])
    (.cond (.tmp 16)
    (.seq (.reg [] [⟨some 4, (.assign (.const (.int .i64 (-1)))), 3, none⟩])
    .ret)
    .skip))
    (.seq (.seq (.reg [] [⟨some 17, (.move (.tmp 0)), 3, none⟩,
      ⟨some 18, (.move (.tmp 1)), 3, none⟩,
      ⟨some 19, (.binOp .gtr 3 (.tmp 17) (.tmp 18) 3), 4, none⟩])
    (.cond (.tmp 19)
    (.seq (.reg [] [⟨some 4, (.assign (.const (.int .i64 1))), 3, none⟩])
    .ret)
    .skip))
    (.seq (.reg [] [⟨some 4, (.assign (.const (.int .i64 0))), 3, none⟩])
    .ret))))))))
theorem C114 {args : List AV} {r : AV} (hn : args.length ≤ 20) (h : vc Try.prog T [] A114 (Fin T [(.tmp 4)] r) ⟨envOf 0 args, []⟩) : CallP Try.prog 114 args r :=
  callP_of tok mixed Try.func114 (by kernel_rfl) (by kernel_rfl) (by kernel_rfl : Try.f114.ntmps = 20) (by kernel_rfl : Try.f114.body.bind (strip 20 (fun _ => [])) = some A114) hn h
def A132 : ACode :=
  (.seq (.reg [] [⟨some 2, (.assign (.const (.bool false))), 4, none⟩])
    (.seq (.reg [] [⟨some 3, (.move (.tmp 0)), 3, none⟩,
      ⟨some 4, (.move (.tmp 0)), 3, none⟩,
      ⟨some 5, (.binOp .neq 3 (.tmp 3) (.tmp 4) 3), 4, none⟩,
      ⟨some 2, (.assign (.tmp 5)), 4, none⟩])
    .ret))
theorem C132 {args : List AV} {r : AV} (hn : args.length ≤ 6) (h : vc Try.prog T [] A132 (Fin T [(.tmp 2)] r) ⟨envOf 0 args, []⟩) : CallP Try.prog 132 args r :=
  callP_of tok mixed Try.func132 (by kernel_rfl) (by kernel_rfl) (by kernel_rfl : Try.f132.ntmps = 6) (by kernel_rfl : Try.f132.body.bind (strip 6 (fun _ => [])) = some A132) hn h

end Go.Proofs.Ytkhddecnllcaiaa
end

section
/- Contracts: keys of words. -/
namespace Go.Proofs.Ytkhddecnllcaiaa
open Go.Abs Go
set_option maxRecDepth 20000
set_option maxHeartbeats 2000000
attribute [local irreducible] PreK CondK CallK CallG CallX LoopK
attribute [local simp] avsEq avEq akind teq vkind vEq
attribute [simp] T_9 T_12 T_13 T_21 T_25 T_26 T_54 T_86 T_91 T_92 T_93 T_118 T_119 T_98 T_99 T_136 T_156 T_149 T_152 T_167 T_171 T_173 T_187

def b8 (x : Int) : AV := .raw (.int .u8 (48 + x))
theorem bytesOf_b8 : ∀ w : List Int, bytesOf (w.map b8) = some (w.map fun x => 48 + x)
  | [] => rfl
  | x :: w => by simp [bytesOf, b8, bytesOf_b8 w]
theorem key_c (w : List Int) (hl : w.length ≤ 1000) (hw : fine w) : CallP Try.prog 61 [ints w] (keyV w) := by
  refine C61 (by simp) ?_
  simp [A61]
  refine LoopK.by (ι := Nat × Nat) (fun i => ⟨[(8, iv i.1), (7, iv w.length), (6, ints w), (3, .sl 3 i.2 0 i.1)], [(3, some ⟨1, (w.take i.1).map b8, i.2, false⟩)]⟩) (fun i => w.length - i.1)
    (fun i => i.1 ≤ w.length) (0, 1) (by simp) (by simp) ?_
  intro ⟨i, ver⟩ Q' hi hq he hr
  dsimp only at hi
  try simp 
  refine CondK.intro (fun h1 => ?_) (fun h1 => ?_)
  · simp at h1
    have hx := hw (el w i) (el_mem_of w i h1)
    have hwr : IntKind.u8.wrap (48 + el w i) = 48 + el w i := by
      simp [IntKind.wrap, IntKind.bits, IntKind.signed]
      omega
    have hmin : min i w.length = i := by omega
    try simp [h1, hmin]
    repeat' (first
      | ((with_reducible refine PreK.intro ?_ ?_); (next => (first | omega | (intros; first | omega | (refine ⟨by omega, ?_⟩; repeat (first | assumption | constructor)) | assumption))); intro _; try simp [h1, hmin])
      | fail)
    refine hq (i + 1, ver + 1) _ (by dsimp only; omega) (by dsimp only; omega) ?_
    have e : (w.take (i + 1)).map b8 = (w.take i).map b8 ++ [b8 (el w i)] := by rw [take_succ w i h1, List.map_append]; rfl
    simp [hwr]
    refine .inl ?_
    simp only [← List.map_take, List.take_take, Nat.min_self, e]
    rfl
  · simp at h1
    have hil : i = w.length := by omega
    subst hil
    try simp 
    apply he
    have hb := bytesOf_b8 w
    try simp 
    repeat (refine PreK.intro (by first | omega | (intros; first | omega | (refine ⟨by omega, ?_⟩; simp_all; done) | (simp_all; done) | (simp_all; omega))) fun _ => ?_; (try simp [hb]))
    rfl
end Go.Proofs.Ytkhddecnllcaiaa
end

section
/- PURSE -/
/- Contracts: what a word reaches. -/
namespace Go.Proofs.Ytkhddecnllcaiaa
open Go.Abs Go
set_option maxRecDepth 20000
set_option maxHeartbeats 8000000
attribute [local irreducible] PreK CondK CallK CallG CallX LoopK
attribute [local simp] avsEq avEq akind teq vkind vEq

theorem CF69 {args : List AV} {r : AV} (hn : args.length ≤ 111) (h : vc Try.prog T [] A69 (FinF T [(.tmp 4), (.tmp 5)] r) ⟨envOf 0 args, []⟩) : CallP Try.prog 69 args r :=
  callPF_of tok mixed Try.func69 (by kernel_rfl) (by kernel_rfl) (by kernel_rfl : Try.f69.ntmps = 111) (by kernel_rfl : Try.f69.body.bind (strip 111 (fun _ => [])) = some A69) hn h
def graphV (s : List Rule) (g : Gr) : AV := .agg [rulesV s, wordsV g.ws, .map (entsF 0 g.ws), ints g.frm, stepsV g.stp]
def reachV (s : List Rule) : Option Gr → AV
  | none => .tup [.raw (.pointer none), iv 3]
  | some g => .tup [.ipt (graphV s g) 0, iv 0]
def gV (k : Bool) (s : List Rule) (g : Gr) : AV := .agg [rulesV s, .seq 1 (g.ws.map ints) k, .map (entsF 0 g.ws), .seq 1 (g.frm.map iv) k, .seq 2 (g.stp.map stepV) k]
def reachX (s : List Rule) : Option Gr → AV
  | none => .tup [.raw (.pointer none), iv 3]
  | some g => .tup [.ipt (gV (decide (g.ws.length = 1)) s g) 0, iv 0]
def boxT (s : List Rule) (g : Gr) : List (Nat × Option Box) := [(23, some ⟨5, [.agg [rulesV s, .seq 1 (g.ws.map ints) true, .mp 15 1, .seq 1 (g.frm.map iv) true, .seq 2 (g.stp.map stepV) true]], 1, true⟩), (15, some ⟨0, entsF 0 g.ws, 1, false⟩)]
def boxF (s : List Rule) (g : Gr) (v : Nat) : List (Nat × Option Box) := [(23, some ⟨5, [.agg [rulesV s, .sl 87 v 0 g.ws.length, .mp 15 1, .sl 94 v 0 g.frm.length, .sl 102 v 0 g.stp.length]], 1, true⟩), (15, some ⟨0, entsF 0 g.ws, 1, false⟩), (87, some ⟨1, g.ws.map ints, v, false⟩), (94, some ⟨1, g.frm.map iv, v, false⟩), (102, some ⟨2, g.stp.map stepV, v, false⟩)]
attribute [local simp] boxT boxF entsF
theorem reach_x (s : List Rule) (w : List Int) (h : Sys.small s) (hs : sysErr s = 0) (hw : wordErr w = 0) : CallP Try.prog 69 [rulesV s, ints w] (reachX s (reachG s w)) := by
  refine CF69 (by simp) ?_
  have hkw := key_c w (by have := (wordErr_zero hw).1; omega) (fine_of hw)
  generalize hR : reachG s w = R
  unfold reachG at hR
  have hok0 := Gr.start hw
  have hk0 : decide ((⟨[w], [-1], [⟨0, 0⟩]⟩ : Gr).ws.length = 1) = true := rfl
  generalize hg0 : (⟨[w], [-1], [⟨0, 0⟩]⟩ : Gr) = g0 at hR hok0 hk0
  simp [A69]
  try simp 
  repeat' (first
    | (refine CallX.pure (hkw) (by simp) (by simp) ?_; try simp )
    | (refine CallK.intro (hkw) (by simp) (by simp) ?_; try simp )
    | (refine CallG.intro (fun _ => hkw) (by simp) (by simp) ?_; try simp )
    | ((with_reducible refine PreK.intro ?_ ?_); (next => (first | omega | (intros; first | omega | (refine ⟨by omega, ?_⟩; repeat (first | assumption | constructor)) | assumption))); intro _; try simp )
    | fail)
  refine PreK.intro (by simp [big]) fun _ => ?_
  try simp 
  try simp 
  repeat' (first
    | ((with_reducible refine PreK.intro ?_ ?_); (next => (first | omega | (intros; first | omega | (refine ⟨by omega, ?_⟩; repeat (first | assumption | constructor)) | assumption))); intro _; try simp )
    | fail)
  refine LoopK.by (ι := Bool × Nat × Nat × Gr) (fun x => match x with
      | (true, i, _, g) => ⟨[(7, iv i), (6, .pt 23 1 0 0), (0, rulesV s)], boxT s g⟩
      | (false, i, v, g) => ⟨[(7, iv i), (6, .pt 23 1 0 0), (0, rulesV s)], boxF s g v⟩)
    (fun x => 400 - x.2.1) (fun x => (decide (x.2.2.2.ws.length = 1) = x.1) ∧ x.2.2.2.ok ∧ x.2.1 ≤ x.2.2.2.ws.length ∧ closeG s (301 - x.2.1) x.2.1 x.2.2.2 = R) (true, 0, 0, g0) ⟨hk0, hok0, by simp, hR⟩ (by subst hg0; simp) ?_
  intro ⟨kd, i, v, g⟩ Q' ⟨hk, hok, hi, hc⟩ hq he hr
  dsimp only at hk hok hi hc
  have hnum := hok.num
  have hfl := hok.frm
  have hsl := hok.stp
  obtain ⟨n, hn⟩ : ∃ n, 301 - i = n + 1 := ⟨300 - i, by omega⟩
  rw [hn, closeG] at hc
  by_cases hi2 : i < g.ws.length
  · rw [if_pos hi2] at hc
    have hui := hok.fine _ (el_mem_of g.ws i hi2)
    have hmc := moves_c s (el g.ws i) h hs hui
    have hmr := fun m hm => @moves_right s (el g.ws i) hs hui m hm
    have hml := movesM_len hs hui
    generalize movesM s (el g.ws i) = ms at hmc hmr hc hml
    generalize hRA : addG i g ms = RA at hc
    cases kd
    · try simp 
      refine CondK.intro (fun h1 => ?_) (fun h1 => ?_)
      · repeat (refine PreK.intro (by first | omega | (intros; first | omega | (refine ⟨by omega, ?_⟩; simp_all; done) | (simp_all; done) | (simp_all; omega))) fun _ => ?_; (try simp [hi2]))
        try simp [hi2]
        repeat' (first
          | (refine CallX.pure (hmc) (by simp) (by simp) ?_; try simp [hi2])
          | (refine CallK.intro (hmc) (by simp) (by simp) ?_; try simp [hi2])
          | (refine CallG.intro (fun _ => hmc) (by simp) (by simp) ?_; try simp [hi2])
          | ((with_reducible refine PreK.intro ?_ ?_); (next => (first | omega | (intros; first | omega | (refine ⟨by omega, ?_⟩; repeat (first | assumption | constructor)) | assumption))); intro _; try simp [hi2])
          | fail)
        refine LoopK.by (ι := Nat × Nat × Gr) (fun x => ⟨[(43, iv x.1), (42, iv ms.length), (41, movesV ms), (7, iv i), (6, .pt 23 1 0 0), (0, rulesV s)], boxF s x.2.2 x.2.1⟩)
          (fun x => ms.length - x.1) (fun x => (decide (x.2.2.ws.length = 1) = false) ∧ x.2.2.ok ∧ i + 1 ≤ x.2.2.ws.length ∧ addG i x.2.2 (ms.drop x.1) = RA) (0, v, g) ⟨hk, hok, hi2, hRA⟩ (by simp) ?_
        intro ⟨j, v', g'⟩ Q'' ⟨hk', hok', hi', ha⟩ hq' he' hr'
        dsimp only at hk' hok' hi' ha
        try simp 
        refine CondK.intro (fun h2 => ?_) (fun h2 => ?_)
        · simp at h2
          have hmw := hmr (el ms j) (el_mem_of ms j h2)
          rw [drop_cons ms j h2, addG] at ha
          have hkc := key_c (el ms j).word (by have := (wordErr_zero hmw).1; omega) (fine_of hmw)
          repeat (refine PreK.intro (by first | omega | (intros; first | omega | (refine ⟨by omega, ?_⟩; simp_all; done) | (simp_all; done) | (simp_all; omega))) fun _ => ?_; (try simp [h2]))
          by_cases hmem : (el ms j).word ∈ g'.ws
          · obtain ⟨q, q1, q2, q3⟩ := mfind_some (k := 0) (j := 0) (fun x hx => fine_of (hok'.fine x hx)) hmem
            rw [if_pos hmem] at ha
            refine CallK.intro (by simpa using hkc) (by simp) (by simp) ?_
            try simp [q3, keysOK_ents]
            repeat (refine PreK.intro (by first | omega | (intros; first | omega | (refine ⟨by omega, ?_⟩; simp_all; done) | (simp_all; done) | (simp_all; omega))) fun _ => ?_; (try simp [q3, keysOK_ents]))
            refine CondK.intro (fun h3 => ?_) (fun h3 => ?_)
            · repeat (refine PreK.intro (by first | omega | (intros; first | omega | (refine ⟨by omega, ?_⟩; simp_all; done) | (simp_all; done) | (simp_all; omega))) fun _ => ?_; (try simp ))
              exact hq' (j + 1, v', g') _ ⟨hk', hok', hi', ha⟩ (by dsimp only; omega) (by simp)
            · simp at h3
          · have q3 := mfind_none (k := 0) (j := 0) (fun x hx => fine_of (hok'.fine x hx)) (fine_of hmw) hmem
            rw [if_neg hmem] at ha
            refine CallK.intro (by simpa using hkc) (by simp) (by simp) ?_
            try simp [q3, keysOK_ents]
            repeat (refine PreK.intro (by first | omega | (intros; first | omega | (refine ⟨by omega, ?_⟩; simp_all; done) | (simp_all; done) | (simp_all; omega))) fun _ => ?_; (try simp [q3, keysOK_ents]))
            refine CondK.intro (fun h3 => ?_) (fun h3 => ?_)
            · simp at h3
            · repeat (refine PreK.intro (by first | omega | (intros; first | omega | (refine ⟨by omega, ?_⟩; simp_all; done) | (simp_all; done) | (simp_all; omega))) fun _ => ?_; (try simp ))
              by_cases h300 : g'.ws.length = 300
              · rw [if_pos h300] at ha
                subst ha
                refine CondK.intro (fun h4 => ?_) (fun h4 => ?_)
                · try simp 
                  apply hr'
                  apply hr
                  refine ⟨[], ?_⟩
                  simp [reachX, ← hc]
                · simp at h4; omega
              · rw [if_neg h300] at ha
                have hlen1 := hok'.num
                have hlen2 := hok'.frm
                have hlen3 := hok'.stp
                refine CondK.intro (fun h4 => ?_) (fun h4 => ?_)
                · simp at h4; omega
                · repeat (refine PreK.intro (by first | omega | (intros; first | omega | (refine ⟨by omega, ?_⟩; simp_all; done) | (simp_all; done) | (simp_all; omega))) fun _ => ?_; (try simp ))
                  refine CallK.intro (by simpa using hkc) (by simp) (by simp) ?_
                  try simp [q3, keysOK_ents, entsF_len]
                  refine PreK.intro (by simp only [big]; omega) fun _ => ?_
                  try simp 
                  repeat (refine PreK.intro (by first | omega | (intros; first | omega | (refine ⟨by omega, ?_⟩; simp_all; done) | (simp_all; done) | (simp_all; omega))) fun _ => ?_; (try simp [q3, keysOK_ents, entsF_len]))
                  refine hq' (j + 1, v' + 1, ⟨g'.ws ++ [(el ms j).word], g'.frm ++ [(i : Int)], g'.stp ++ [(el ms j).step]⟩) _ ⟨by have := hok'.some; simp only [decide_eq_false_iff_not, List.length_append, List.length_cons, List.length_nil]; omega, hok'.push hmw h300, by simp; omega, ha⟩ (by dsimp only; omega) (by simp [q3, entsF_push])
        · simp at h2
          rw [List.drop_eq_nil_of_le (by omega), addG] at ha
          subst ha
          try simp 
          apply he'
          try simp 
          repeat' (first
            | ((with_reducible refine PreK.intro ?_ ?_); (next => (first | omega | (intros; first | omega | (refine ⟨by omega, ?_⟩; repeat (first | assumption | constructor)) | assumption))); intro _; try simp )
            | fail)
          exact hq (false, i + 1, v', g') _ ⟨hk', hok', hi', by dsimp only; rw [show 301 - (i + 1) = n by omega]; exact hc⟩ (by dsimp only; omega) (by simp)
      · simp at h1
        omega
    · try simp 
      refine CondK.intro (fun h1 => ?_) (fun h1 => ?_)
      · repeat (refine PreK.intro (by first | omega | (intros; first | omega | (refine ⟨by omega, ?_⟩; simp_all; done) | (simp_all; done) | (simp_all; omega))) fun _ => ?_; (try simp [hi2]))
        try simp [hi2]
        repeat' (first
          | (refine CallX.pure (hmc) (by simp) (by simp) ?_; try simp [hi2])
          | (refine CallK.intro (hmc) (by simp) (by simp) ?_; try simp [hi2])
          | (refine CallG.intro (fun _ => hmc) (by simp) (by simp) ?_; try simp [hi2])
          | ((with_reducible refine PreK.intro ?_ ?_); (next => (first | omega | (intros; first | omega | (refine ⟨by omega, ?_⟩; repeat (first | assumption | constructor)) | assumption))); intro _; try simp [hi2])
          | fail)
        refine LoopK.by (ι := Bool × Nat × Nat × Gr) (fun x => match x with
            | (true, j, _, g') => ⟨[(43, iv j), (42, iv ms.length), (41, movesV ms), (7, iv i), (6, .pt 23 1 0 0), (0, rulesV s)], boxT s g'⟩
            | (false, j, v', g') => ⟨[(43, iv j), (42, iv ms.length), (41, movesV ms), (7, iv i), (6, .pt 23 1 0 0), (0, rulesV s)], boxF s g' v'⟩)
          (fun x => ms.length - x.2.1) (fun x => (decide (x.2.2.2.ws.length = 1) = x.1) ∧ x.2.2.2.ok ∧ i + 1 ≤ x.2.2.2.ws.length ∧ addG i x.2.2.2 (ms.drop x.2.1) = RA) (true, 0, v, g) ⟨hk, hok, hi2, hRA⟩ (by simp) ?_
        intro ⟨kd', j, v', g'⟩ Q'' ⟨hk', hok', hi', ha⟩ hq' he' hr'
        dsimp only at hk' hok' hi' ha
        cases kd'
        · try simp 
          refine CondK.intro (fun h2 => ?_) (fun h2 => ?_)
          · simp at h2
            have hmw := hmr (el ms j) (el_mem_of ms j h2)
            rw [drop_cons ms j h2, addG] at ha
            have hkc := key_c (el ms j).word (by have := (wordErr_zero hmw).1; omega) (fine_of hmw)
            repeat (refine PreK.intro (by first | omega | (intros; first | omega | (refine ⟨by omega, ?_⟩; simp_all; done) | (simp_all; done) | (simp_all; omega))) fun _ => ?_; (try simp [h2]))
            by_cases hmem : (el ms j).word ∈ g'.ws
            · obtain ⟨q, q1, q2, q3⟩ := mfind_some (k := 0) (j := 0) (fun x hx => fine_of (hok'.fine x hx)) hmem
              rw [if_pos hmem] at ha
              refine CallK.intro (by simpa using hkc) (by simp) (by simp) ?_
              try simp [q3, keysOK_ents]
              repeat (refine PreK.intro (by first | omega | (intros; first | omega | (refine ⟨by omega, ?_⟩; simp_all; done) | (simp_all; done) | (simp_all; omega))) fun _ => ?_; (try simp [q3, keysOK_ents]))
              refine CondK.intro (fun h3 => ?_) (fun h3 => ?_)
              · repeat (refine PreK.intro (by first | omega | (intros; first | omega | (refine ⟨by omega, ?_⟩; simp_all; done) | (simp_all; done) | (simp_all; omega))) fun _ => ?_; (try simp ))
                exact hq' (false, j + 1, v', g') _ ⟨hk', hok', hi', ha⟩ (by dsimp only; omega) (by simp)
              · simp at h3
            · have q3 := mfind_none (k := 0) (j := 0) (fun x hx => fine_of (hok'.fine x hx)) (fine_of hmw) hmem
              rw [if_neg hmem] at ha
              refine CallK.intro (by simpa using hkc) (by simp) (by simp) ?_
              try simp [q3, keysOK_ents]
              repeat (refine PreK.intro (by first | omega | (intros; first | omega | (refine ⟨by omega, ?_⟩; simp_all; done) | (simp_all; done) | (simp_all; omega))) fun _ => ?_; (try simp [q3, keysOK_ents]))
              refine CondK.intro (fun h3 => ?_) (fun h3 => ?_)
              · simp at h3
              · repeat (refine PreK.intro (by first | omega | (intros; first | omega | (refine ⟨by omega, ?_⟩; simp_all; done) | (simp_all; done) | (simp_all; omega))) fun _ => ?_; (try simp ))
                by_cases h300 : g'.ws.length = 300
                · rw [if_pos h300] at ha
                  subst ha
                  refine CondK.intro (fun h4 => ?_) (fun h4 => ?_)
                  · try simp 
                    apply hr'
                    apply hr
                    refine ⟨[], ?_⟩
                    simp [reachX, ← hc]
                  · simp at h4; omega
                · rw [if_neg h300] at ha
                  have hlen1 := hok'.num
                  have hlen2 := hok'.frm
                  have hlen3 := hok'.stp
                  refine CondK.intro (fun h4 => ?_) (fun h4 => ?_)
                  · simp at h4; omega
                  · repeat (refine PreK.intro (by first | omega | (intros; first | omega | (refine ⟨by omega, ?_⟩; simp_all; done) | (simp_all; done) | (simp_all; omega))) fun _ => ?_; (try simp ))
                    refine CallK.intro (by simpa using hkc) (by simp) (by simp) ?_
                    try simp [q3, keysOK_ents, entsF_len]
                    refine PreK.intro (by simp only [big]; omega) fun _ => ?_
                    try simp 
                    repeat (refine PreK.intro (by first | omega | (intros; first | omega | (refine ⟨by omega, ?_⟩; simp_all; done) | (simp_all; done) | (simp_all; omega))) fun _ => ?_; (try simp [q3, keysOK_ents, entsF_len]))
                    refine hq' (false, j + 1, v' + 1, ⟨g'.ws ++ [(el ms j).word], g'.frm ++ [(i : Int)], g'.stp ++ [(el ms j).step]⟩) _ ⟨by have := hok'.some; simp only [decide_eq_false_iff_not, List.length_append, List.length_cons, List.length_nil]; omega, hok'.push hmw h300, by simp; omega, ha⟩ (by dsimp only; omega) (by simp [q3, entsF_push])
          · simp at h2
            rw [List.drop_eq_nil_of_le (by omega), addG] at ha
            subst ha
            try simp 
            apply he'
            try simp 
            repeat' (first
              | ((with_reducible refine PreK.intro ?_ ?_); (next => (first | omega | (intros; first | omega | (refine ⟨by omega, ?_⟩; repeat (first | assumption | constructor)) | assumption))); intro _; try simp )
              | fail)
            exact hq (false, i + 1, v', g') _ ⟨hk', hok', hi', by dsimp only; rw [show 301 - (i + 1) = n by omega]; exact hc⟩ (by dsimp only; omega) (by simp)
        · try simp 
          refine CondK.intro (fun h2 => ?_) (fun h2 => ?_)
          · simp at h2
            have hmw := hmr (el ms j) (el_mem_of ms j h2)
            rw [drop_cons ms j h2, addG] at ha
            have hkc := key_c (el ms j).word (by have := (wordErr_zero hmw).1; omega) (fine_of hmw)
            repeat (refine PreK.intro (by first | omega | (intros; first | omega | (refine ⟨by omega, ?_⟩; simp_all; done) | (simp_all; done) | (simp_all; omega))) fun _ => ?_; (try simp [h2]))
            by_cases hmem : (el ms j).word ∈ g'.ws
            · obtain ⟨q, q1, q2, q3⟩ := mfind_some (k := 0) (j := 0) (fun x hx => fine_of (hok'.fine x hx)) hmem
              rw [if_pos hmem] at ha
              refine CallK.intro (by simpa using hkc) (by simp) (by simp) ?_
              try simp [q3, keysOK_ents]
              repeat (refine PreK.intro (by first | omega | (intros; first | omega | (refine ⟨by omega, ?_⟩; simp_all; done) | (simp_all; done) | (simp_all; omega))) fun _ => ?_; (try simp [q3, keysOK_ents]))
              refine CondK.intro (fun h3 => ?_) (fun h3 => ?_)
              · repeat (refine PreK.intro (by first | omega | (intros; first | omega | (refine ⟨by omega, ?_⟩; simp_all; done) | (simp_all; done) | (simp_all; omega))) fun _ => ?_; (try simp ))
                exact hq' (true, j + 1, v', g') _ ⟨hk', hok', hi', ha⟩ (by dsimp only; omega) (by simp)
              · simp at h3
            · have q3 := mfind_none (k := 0) (j := 0) (fun x hx => fine_of (hok'.fine x hx)) (fine_of hmw) hmem
              rw [if_neg hmem] at ha
              refine CallK.intro (by simpa using hkc) (by simp) (by simp) ?_
              try simp [q3, keysOK_ents]
              repeat (refine PreK.intro (by first | omega | (intros; first | omega | (refine ⟨by omega, ?_⟩; simp_all; done) | (simp_all; done) | (simp_all; omega))) fun _ => ?_; (try simp [q3, keysOK_ents]))
              refine CondK.intro (fun h3 => ?_) (fun h3 => ?_)
              · simp at h3
              · repeat (refine PreK.intro (by first | omega | (intros; first | omega | (refine ⟨by omega, ?_⟩; simp_all; done) | (simp_all; done) | (simp_all; omega))) fun _ => ?_; (try simp ))
                by_cases h300 : g'.ws.length = 300
                · rw [if_pos h300] at ha
                  subst ha
                  refine CondK.intro (fun h4 => ?_) (fun h4 => ?_)
                  · try simp 
                    apply hr'
                    apply hr
                    refine ⟨[], ?_⟩
                    simp [reachX, ← hc]
                  · simp at h4; omega
                · rw [if_neg h300] at ha
                  have hlen1 := hok'.num
                  have hlen2 := hok'.frm
                  have hlen3 := hok'.stp
                  refine CondK.intro (fun h4 => ?_) (fun h4 => ?_)
                  · simp at h4; omega
                  · repeat (refine PreK.intro (by first | omega | (intros; first | omega | (refine ⟨by omega, ?_⟩; simp_all; done) | (simp_all; done) | (simp_all; omega))) fun _ => ?_; (try simp ))
                    refine CallK.intro (by simpa using hkc) (by simp) (by simp) ?_
                    try simp [q3, keysOK_ents, entsF_len]
                    refine PreK.intro (by simp only [big]; omega) fun _ => ?_
                    try simp 
                    repeat (refine PreK.intro (by first | omega | (intros; first | omega | (refine ⟨by omega, ?_⟩; simp_all; done) | (simp_all; done) | (simp_all; omega))) fun _ => ?_; (try simp [q3, keysOK_ents, entsF_len]))
                    refine hq' (false, j + 1, 1, ⟨g'.ws ++ [(el ms j).word], g'.frm ++ [(i : Int)], g'.stp ++ [(el ms j).step]⟩) _ ⟨by have := hok'.some; simp only [decide_eq_false_iff_not, List.length_append, List.length_cons, List.length_nil]; omega, hok'.push hmw h300, by simp; omega, ha⟩ (by dsimp only; omega) (by simp [q3, entsF_push])
          · simp at h2
            rw [List.drop_eq_nil_of_le (by omega), addG] at ha
            subst ha
            try simp 
            apply he'
            try simp 
            repeat' (first
              | ((with_reducible refine PreK.intro ?_ ?_); (next => (first | omega | (intros; first | omega | (refine ⟨by omega, ?_⟩; repeat (first | assumption | constructor)) | assumption))); intro _; try simp )
              | fail)
            exact hq (true, i + 1, v', g') _ ⟨hk', hok', hi', by dsimp only; rw [show 301 - (i + 1) = n by omega]; exact hc⟩ (by dsimp only; omega) (by simp)
      · simp at h1
        omega
  · rw [if_neg hi2] at hc
    cases kd
    · try simp 
      refine CondK.intro (fun h1 => ?_) (fun h1 => ?_)
      · simp at h1
        omega
      · try simp 
        apply he
        try simp 
        refine ⟨[87, 94, 102, 15, 23], ?_⟩
        simp [reachX, gV, ← hc, hk]
    · try simp 
      refine CondK.intro (fun h1 => ?_) (fun h1 => ?_)
      · simp at h1
        omega
      · try simp 
        apply he
        try simp 
        refine ⟨[15, 23], ?_⟩
        simp [reachX, gV, ← hc, hk]
end Go.Proofs.Ytkhddecnllcaiaa
end

section
/- The library's sort of words, over a lent box. -/
namespace Go.Proofs.Ytkhddecnllcaiaa
open Go.Abs Go

/-! ### lists of words in order -/
/-- No later one comes before an earlier one. -/
def inOrder (l : List (List Int)) : Prop := l.Pairwise fun a b => bef b a = false
theorem order_same : ∀ {l m : List (List Int)}, l.Perm m → inOrder l → inOrder m → l = m
  | [], m, h, _, _ => by simpa using h.symm
  | x :: l, [], h, _, _ => by simp at h
  | x :: l, y :: m, h, hl, hm => by
    unfold inOrder at hl hm
    rw [List.pairwise_cons] at hl hm
    have hxy : x = y := by
      apply Classical.byContradiction
      intro hne
      have hx : x ∈ m := by
        rcases List.mem_cons.1 (h.mem_iff.1 (List.mem_cons_self)) with e | e
        · exact absurd e hne
        · exact e
      have hy : y ∈ l := by
        rcases List.mem_cons.1 (h.mem_iff.2 (List.mem_cons_self)) with e | e
        · exact absurd e.symm hne
        · exact e
      have h1 := hl.1 y hy
      have h2 := hm.1 x hx
      rcases bef_total hne with e | e
      · rw [e] at h2; cases h2
      · rw [e] at h1; cases h1
    subst hxy
    rw [order_same (List.Perm.cons_inv h) hl.2 hm.2]
def insO (w : List Int) : List (List Int) → List (List Int)
  | [] => [w]
  | x :: l => if bef x w then x :: insO w l else w :: x :: l
/-- The words in ascending order. -/
def sortW : List (List Int) → List (List Int)
  | [] => []
  | x :: l => insO x (sortW l)
theorem insO_perm (w : List Int) : ∀ l : List (List Int), (insO w l).Perm (w :: l)
  | [] => List.Perm.refl _
  | x :: l => by
    rw [insO]
    split
    · exact ((insO_perm w l).cons x).trans (List.Perm.swap w x l)
    · exact List.Perm.refl _
theorem sortW_perm : ∀ l : List (List Int), (sortW l).Perm l
  | [] => List.Perm.refl _
  | x :: l => (insO_perm x (sortW l)).trans ((sortW_perm l).cons x)
theorem bef_flip {a b : List Int} (h : bef a b = true) : bef b a = false := bef_asymm h
theorem bef_no_trans {a b c : List Int} (h : bef b a = false) (k : bef c b = false) : bef c a = false := by
  cases hc : bef c a with
  | false => rfl
  | true =>
    by_cases e1 : a = b
    · subst e1; rw [k] at hc; cases hc
    · by_cases e2 : b = c
      · subst e2; rw [h] at hc; cases hc
      · rcases bef_total e1 with e | e
        · have := bef_trans hc e
          rw [this] at k; cases k
        · rw [e] at h; cases h
theorem insO_order {w : List Int} : ∀ {l : List (List Int)}, inOrder l → inOrder (insO w l)
  | [], _ => by simp [insO, inOrder]
  | x :: l, h => by
    unfold inOrder at h
    rw [List.pairwise_cons] at h
    rw [insO]
    split
    · rename_i hb
      unfold inOrder
      rw [List.pairwise_cons]
      refine ⟨fun y hy => ?_, insO_order h.2⟩
      rcases List.mem_cons.1 ((insO_perm w l).mem_iff.1 hy) with rfl | hy
      · exact bef_flip hb
      · exact h.1 y hy
    · rename_i hb
      have hb' : bef x w = false := by simpa using hb
      unfold inOrder
      rw [List.pairwise_cons]
      refine ⟨fun y hy => ?_, by rw [List.pairwise_cons]; exact h⟩
      rcases List.mem_cons.1 hy with rfl | hy
      · exact hb'
      · exact bef_no_trans hb' (h.1 y hy)
theorem sortW_order : ∀ l : List (List Int), inOrder (sortW l)
  | [] => by simp [sortW, inOrder]
  | x :: l => insO_order (sortW_order l)

/-- How two words compare. -/
def cmpW (a b : List Int) : Int := if a = b then 0 else if bef a b then -1 else 1

/-! ### the library's sort -/
section
open Go.Sort Go.Shelf
variable {P : Program} {ρ : Ren}

/-- A word and the value that reads so. -/
abbrev Cell (w : World) (Y : Nat → Prop) := { p : List Int × Value // Rep w Y Mu.none (ints p.1) p.2 }
instance {w : World} {Y : Nat → Prop} : Inhabited (Cell w Y) := ⟨⟨([], .slice none 0 0), .nil⟩⟩
def cellV {w : World} {Y : Nat → Prop} (x : Cell w Y) : Value := x.1.2
def cellC {w : World} {Y : Nat → Prop} (x y : Cell w Y) : Int := cmpW x.1.1 y.1.1
theorem cellV_one {w : World} {Y : Nat → Prop} : OneCell (cellV (w := w) (Y := Y)) := by
  intro ⟨⟨l, v⟩, h⟩
  unfold cellV
  simp only [ints] at h ⊢
  generalize l.map iv = m at h
  cases h <;> rfl
theorem cell_big {w : World} {Y : Nat → Prop} {l : List Int} {v : Value} (h : Rep w Y Mu.none (ints l) v) : l.length ≤ big := by
  simp only [ints] at h
  have e : l.length = (l.map iv).length := by simp
  rw [e]
  generalize l.map iv = m at h
  cases h with
  | nil => simp
  | seq hY hb hc hf hbig hfit hw h1 h => exact hbig
theorem cellC_lt {w : World} {Y : Nat → Prop} (x y : Cell w Y) : ltOf cellC x y = bef x.1.1 y.1.1 := by
  unfold ltOf cellC cmpW
  by_cases h : x.1.1 = y.1.1
  · rw [if_pos h, h, bef_irr]; simp
  · rw [if_neg h]
    cases bef x.1.1 y.1.1 <;> simp
theorem cell_swo {w : World} {Y : Nat → Prop} : SWO (ltOf (cellC (w := w) (Y := Y))) := by
  refine ⟨fun x => ?_, fun x y z h1 h2 => ?_, fun x y z h1 h2 => ?_⟩
  · rw [cellC_lt, bef_irr]
  · rw [cellC_lt] at h1 h2 ⊢
    exact bef_trans h1 h2
  · rw [cellC_lt] at h1 h2 ⊢
    exact bef_no_trans h2 h1
theorem grows_eq {w w' : World} (h : Grows w w') : w' = Go.Sort.grow (w.drewN (w'.drawn - w.drawn)) (w'.heap.extract w.heap.size w'.heap.size) := by
  obtain ⟨⟨h1, h2⟩, h3, h4, h5, h6⟩ := h
  cases w
  cases w'
  unfold Go.Sort.grow World.drewN
  simp only at h1 h2 h3 h4 h5 h6 ⊢
  simp only [World.mk.injEq]
  refine ⟨?_, h3, by omega, h1, h4⟩
  apply Array.ext_getElem?
  intro k
  rw [Array.getElem?_append]
  split
  · rename_i hk; exact h6 k hk
  · rename_i hk
    rw [Array.getElem?_extract]
    split
    · congr 1; omega
    · rename_i h7
      rw [Array.getElem?_eq_none (by omega)]
theorem sortWorld_other {α : Type} [Inhabited α] {enc : α → Value} {w : World} {blk off m : Nat} {dk : Array α} {os : Array Obj} {b : Nat} (hb : b < w.heap.size) (hne : b ≠ blk) : (Go.Proofs.sortWorld enc w blk off m dk os).heap[b]? = w.heap[b]? := by
  unfold Go.Proofs.sortWorld Go.Sort.grow Go.Sort.putRow Go.Sort.mapBlock Go.Sort.ahead
  simp only
  rw [Array.getElem?_append_left (by simpa using hb), Array.getElem?_modify, if_neg (Ne.symm hne)]
theorem sortWorld_at {α : Type} [Inhabited α] {enc : α → Value} {w : World} {blk off m : Nat} {dk : Array α} {os : Array Obj} {c : Array Value} {e : TypeId} {fr : Nat × Nat} (hb : w.heap[blk]? = some (.cells c e fr)) : (Go.Proofs.sortWorld enc w blk off m dk os).heap[blk]? = some (.cells (Go.Sort.putCells enc off dk c) e fr) := by
  have hlt := lt_of_heap hb
  unfold Go.Proofs.sortWorld Go.Sort.grow Go.Sort.putRow Go.Sort.mapBlock Go.Sort.ahead
  simp only
  rw [Array.getElem?_append_left (by simpa using hlt), Array.getElem?_modify, if_pos rfl, hb]
  rfl
theorem sortWorld_size {α : Type} [Inhabited α] {enc : α → Value} {w : World} {blk off m : Nat} {dk : Array α} {os : Array Obj} : w.heap.size ≤ (Go.Proofs.sortWorld enc w blk off m dk os).heap.size := by
  unfold Go.Proofs.sortWorld Go.Sort.grow Go.Sort.putRow Go.Sort.mapBlock Go.Sort.ahead
  simp
theorem putCells_getD {α : Type} [Inhabited α] {enc : α → Value} {off : Nat} {d : Array α} {c : Array Value} {k : Nat} (hk : k < c.size) : (Go.Sort.putCells enc off d c).getD k undef = if off ≤ k ∧ k < off + d.size then enc d[k - off]! else c.getD k undef := by
  unfold Go.Sort.putCells
  simp [Array.getD, hk]
/-- The library's sort of words, over a lent row. -/
theorem callL_sort (L : SlLaysF.n6 P ρ) {g : FuncId} (hg : ∀ a b : List Int, a.length ≤ big → b.length ≤ big → CallP P g [ints a, ints b] (iv (cmpW a b))) (d : List (List Int)) :
    CallL P (ρ.f 6) [] 1 (d.map ints) [.fn g [] []] (.val (.tup [])) ((sortW d).map ints) := by
  have hsl : (sortW d).length = d.length := (sortW_perm d).length_eq
  refine ⟨?_, fun w X l vs hv hsz hX hXl hh hlen hargs => ?_⟩
  · obtain ⟨nm, hn, hf⟩ := L.f6
    exact ⟨_, hf, by simpa using hn, by simp [SlBodyF.n6]⟩
  obtain ⟨v0, v1, rfl⟩ : ∃ v0 v1, vs = #[v0, v1] := by
    cases vs with
    | mk l =>
      match l, hlen with
      | [a, b], _ => exact ⟨a, b, rfl⟩
  have h0 : Rep w (Yof X (mu1 l)) (mu1 l) (.sl lid 0 0 (d.map ints).length) v0 := hargs 0 (by simp)
  have h1 : Rep w (Yof X (mu1 l)) (mu1 l) (.fn g [] []) v1 := hargs 1 (by simp)
  generalize hn : (d.map ints).length = n at h0
  simp only [List.length_map] at hn
  cases h1 with
  | @fn _ _ _ _ fs cs hs ht _ _ =>
  obtain rfl : fs = #[] := Array.eq_empty_of_size_eq_zero hs
  obtain rfl : cs = #[] := Array.eq_empty_of_size_eq_zero ht
  cases h0 with
  | slOld hm hv' =>
    simp only [mu1, if_true, Option.some.injEq] at hm
    subst hm
    omega
  | slNil hm hv' =>
    obtain rfl : d = [] := List.eq_nil_of_length_eq_zero hn
    refine (AnyF.slices_SortFunc_none (P := P) (ρ := ρ) { L with } _ 0 _ w).mono fun e w' ⟨he, hw⟩ => ?_
    subst hw
    exact ⟨_, he, Ext.refl _ _, hh, .tup rfl fun i hi => absurd hi (by simp)⟩
  | @sl _ _ _ _ _ cap loc g0 n0 hm hv' hb hc hfit hz =>
    simp only [mu1, if_true, Option.some.injEq] at hm
    subst hm
    subst hn
    obtain ⟨hbig, hh⟩ := hh
    rw [hb] at hh
    obtain ⟨c, el, hheap, hcs, hlen', hone, hrep⟩ := hh.1 (by simp)
    rw [hsz] at hfit
    simp only [Nat.zero_mul, Nat.add_zero, Nat.zero_add, Nat.mul_one, List.length_map, hsz] at hfit hlen' ⊢
    let Y : Nat → Prop := Yof X (mu1 l)
    have hY0 : Y g0 := .inr (blks_mu1.2 ⟨n0, hb⟩)
    have hYlt : ∀ b, Y b → b < w.heap.size := by
      rintro b (hx | hx)
      · exact hX b hx
      · obtain ⟨n, hn⟩ := blks_mu1.1 hx
        rw [hb] at hn
        simp only [Option.some.injEq, Prod.mk.injEq] at hn
        rw [← hn.1]
        exact lt_of_heap hheap
    have hcell : ∀ i : Fin d.length, Rep w Y Mu.none (ints d[i]) (c.getD (l.base + i) undef) := by
      intro i
      have := (hrep i (by simp)).2
      simp only [List.getD_eq_getElem?_getD, List.getElem?_map, List.getElem?_eq_getElem i.2, Option.map_some, Option.getD_some, Nat.mul_one, if_false, Bool.false_eq_true] at this
      exact this
    let arr : Array (Cell w Y) := Array.ofFn (n := d.length) fun i => ⟨(d[i], c.getD (l.base + i) undef), hcell i⟩
    have harr : arr.size = d.length := Array.size_ofFn
    have hget : ∀ i (hi : i < d.length), arr[i]! = ⟨(d[i], c.getD (l.base + i) undef), hcell ⟨i, hi⟩⟩ := by
      intro i hi
      rw [getElem!_pos arr i (by rw [harr]; exact hi)]
      exact Array.getElem_ofFn ..
    have hwords : arr.toList.map (fun x => x.1.1) = d := by
      apply List.ext_getElem
      · rw [List.length_map, Array.length_toList, harr]
      · intro i h1 h2
        rw [List.getElem_map, Array.getElem_toList, ← getElem!_pos arr i (by rw [harr]; exact h2), hget i h2]
    have hmono : ∀ {m : Nat} {dk : Array (Cell w Y)} {os : Array Obj} {a : AV} {v : Value}, Rep w Y Mu.none a v → Rep (Go.Proofs.sortWorld cellV w g0 l.base m dk os) Y Mu.none a v := by
      intro m dk os a v h
      refine h.mono (fun b hb' hlt => ⟨hb', sortWorld_other hlt ?_⟩) (Mu.later.refl _)
      rintro rfl
      exact hb' hY0
    have hkey := Any.slices_SortFunc L (cellV (w := w) (Y := Y)) cellV_one cellC cell_swo g #[] g0 l.base cap arr w ?_ ?_ ?_ (lt_of_heap hheap) ?_
    · rw [harr] at hkey
      refine hkey.mono fun e w' ⟨he, d', n, os, hp, hs, hw⟩ => ?_
      obtain ⟨hp1, _, hp2⟩ := hp
      rw [harr] at hp1
      have hd' : d'.toList.map (fun x => x.1.1) = sortW d := by
        refine order_same ?_ ?_ (sortW_order d)
        · have e1 : d'.extract 0 d.length = d' := by rw [← hp1]; exact Array.extract_size
          have e2 : arr.extract 0 d.length = arr := by rw [← harr]; exact Array.extract_size
          rw [e1, e2] at hp2
          exact ((hp2.map (fun x => x.1.1)).trans (by rw [hwords])).trans (sortW_perm d).symm
        · unfold inOrder
          rw [List.pairwise_map, List.pairwise_iff_getElem]
          intro i j hi hj hij
          have := hs i j (Nat.zero_le _) hij (by simpa [hp1] using hj)
          rw [cellC_lt, getElem!_pos d' j (by simpa using hj), getElem!_pos d' i (by simpa using hi)] at this
          simpa using this
      subst hw
      refine ⟨_, he, ⟨⟨rfl, ?_⟩, rfl, rfl, sortWorld_size, fun b hlt hno => sortWorld_other hlt ?_⟩, ⟨by simpa [hsl] using hbig, ?_⟩, .tup rfl fun i hi => absurd hi (by simp)⟩
      · exact Nat.le_add_right _ _
      · rintro rfl
        exact hno (blks_mu1.2 ⟨n0, hb⟩)
      · rw [hb]
        refine ⟨fun _ => ⟨_, el, sortWorld_at hheap, by simpa [Go.Sort.putCells] using hcs, by simpa [hsl] using hlen', fun j hj => ?_, fun i hi => ?_⟩, fun h => by cases h⟩
        · rw [putCells_getD (by omega)]
          split
          · exact cellV_one _
          · exact hone j hj
        · have hi' : i < d.length := by simpa [hsl] using hi
          have hi2 : i < d'.toList.length := by simpa [hp1] using hi'
          have e3 : (List.map ints (sortW d)).getD i .junk = ints (d'[i]!).1.1 := by
            rw [← hd', List.map_map, List.getD_eq_getElem?_getD, List.getElem?_map, List.getElem?_eq_getElem hi2, getElem!_pos d' i (by simpa using hi2)]
            simp
          rw [e3]
          have hi3 : i < d'.size := by rw [hp1]; exact hi'
          have hlt : l.base + i * 1 < c.size := by rw [hcs]; omega
          refine ⟨rfl, ?_⟩
          show Rep _ _ Mu.none _ ((Go.Sort.putCells cellV l.base d' c).getD (l.base + i * 1) undef)
          rw [putCells_getD hlt, if_pos (by omega), show l.base + i * 1 - l.base = i by omega]
          exact hmono (d'[i]!).2
    · intro args w1
      obtain ⟨fn, hf, hname, hbody⟩ := (hg [] [] (by simp) (by simp)).1
      cases hb2 : fn.body with
      | none => exact absurd hb2 hbody
      | some code => exact enters_of hf (by simpa using hname) hb2 args w1
    · intro m os dk hdk x y
      refine ((hg x.1.1 y.1.1 (cell_big x.2) (cell_big y.2)).2 _ Y _ (fun b hb' => Nat.lt_of_lt_of_le (hYlt b hb') sortWorld_size) rfl fun i hi => ?_).mono ?_
      · match i, hi with
        | 0, _ => exact hmono x.2
        | 1, _ => exact hmono y.2
      · rintro e w' ⟨v, he, hgw, hr⟩
        obtain ⟨rfl, _⟩ := hr.one
        exact ⟨he, _, _, grows_eq hgw⟩
    · intro j hj
      rw [harr] at hj
      rw [hget j hj]
      have hlt : l.base + j < c.size := by omega
      refine ⟨?_, ?_⟩
      · unfold World.cell?
        simp only [hheap]
        simp [cellV, Array.getD, hlt]
      · unfold World.frozen?
        simp [hheap]
    · rw [harr]
      simp only [List.length_map, big] at hbig
      omega
end
end Go.Proofs.Ytkhddecnllcaiaa
end

section
/- The library's sort of words at this program: where its functions and types stand (written by the kit's tool lay-plain), and its contract. -/
namespace Go.Proofs.Ytkhddecnllcaiaa
open Go.Abs Go Go.Shelf
def lsort_ren : Go.Shelf.Ren := ⟨fun | 6 => 96 | 15 => 113 | 14 => 112 | 28 => 130 | 29 => 131 | 20 => 122 | 21 => 123 | 22 => 124 | 23 => 125 | 24 => 126 | 25 => 127 | 26 => 128 | 27 => 129 | 46 => 136 | 47 => 137 | 48 => 138 | 49 => 139 | 50 => 140 | 57 => 143 | n => n, fun | 22 => 45 | 24 => 22 | 25 => 103 | 3 => 3 | 39 => 54 | 0 => 0 | 53 => 149 | 55 => 152 | 4 => 4 | 46 => 157 | 45 => 156 | 50 => 89 | 5 => 5 | 9 => 9 | 66 => 167 | 70 => 171 | 76 => 173 | 77 => 174 | n => n, fun | n => n⟩
theorem lsort : Go.Proofs.SlLaysF.n6 Try.prog lsort_ren := {
  mixed := by kernel_rfl
  f6 := ⟨Try.f96.name, by decide, Try.func96.trans (congrArg some (by kernel_rfl))⟩
  f14 := ⟨Try.f112.name, by decide, Try.func112.trans (congrArg some (by kernel_rfl))⟩
  f15 := Try.func113.trans (congrArg some (by kernel_rfl))
  f20 := ⟨Try.f122.name, by decide, Try.func122.trans (congrArg some (by kernel_rfl))⟩
  f21 := ⟨Try.f123.name, by decide, Try.func123.trans (congrArg some (by kernel_rfl))⟩
  f22 := ⟨Try.f124.name, by decide, Try.func124.trans (congrArg some (by kernel_rfl))⟩
  f23 := ⟨Try.f125.name, by decide, Try.func125.trans (congrArg some (by kernel_rfl))⟩
  f24 := ⟨Try.f126.name, by decide, Try.func126.trans (congrArg some (by kernel_rfl))⟩
  f25 := ⟨Try.f127.name, by decide, Try.func127.trans (congrArg some (by kernel_rfl))⟩
  f26 := ⟨Try.f128.name, by decide, Try.func128.trans (congrArg some (by kernel_rfl))⟩
  f27 := ⟨Try.f129.name, by decide, Try.func129.trans (congrArg some (by kernel_rfl))⟩
  f28 := Try.func130.trans (congrArg some (by kernel_rfl))
  f29 := Try.func131.trans (congrArg some (by kernel_rfl))
  f46 := ⟨Try.f136.name, by decide, Try.func136.trans (congrArg some (by kernel_rfl))⟩
  f47 := Try.func137.trans (congrArg some (by kernel_rfl))
  f48 := Try.func138.trans (congrArg some (by kernel_rfl))
  f49 := ⟨Try.f139.name, by decide, Try.func139.trans (congrArg some (by kernel_rfl))⟩
  f50 := ⟨Try.f140.name, by decide, Try.func140.trans (congrArg some (by kernel_rfl))⟩
  f57 := ⟨Try.f143.name, by decide, Try.func143.trans (congrArg some (by kernel_rfl))⟩
  t0 := Try.underlying0
  a0 := Try.isAgg0
  z0 := Try.sizeOf0
  v0 := Try.zeroValue0
  t3 := Try.underlying3
  a3 := Try.isAgg3
  z3 := Try.sizeOf3
  v3 := Try.zeroValue3
  t4 := Try.underlying4
  a4 := Try.isAgg4
  z4 := Try.sizeOf4
  v4 := Try.zeroValue4
  t5 := Try.underlying5
  a5 := Try.isAgg5
  z5 := Try.sizeOf5
  v5 := Try.zeroValue5
  t9 := Try.underlying9
  a9 := Try.isAgg9
  z9 := Try.sizeOf9
  v9 := Try.zeroValue9
  t22 := Try.underlying45
  a22 := Try.isAgg45
  z22 := Try.sizeOf45
  v22 := Try.zeroValue45
  a24 := Try.isAgg22
  z24 := Try.sizeOf22
  t25 := Try.underlying103
  a25 := Try.isAgg103
  z25 := Try.sizeOf103
  v25 := Try.zeroValue103
  t39 := Try.underlying54
  a39 := Try.isAgg54
  z39 := Try.sizeOf54
  v39 := Try.zeroValue54
  t45 := Try.underlying156
  a45 := Try.isAgg156
  z45 := Try.sizeOf156
  v45 := Try.zeroValue156
  t46 := Try.underlying157
  a46 := Try.isAgg157
  z46 := Try.sizeOf157
  v46 := Try.zeroValue157
  t50 := Try.underlying89
  a50 := Try.isAgg89
  z50 := Try.sizeOf89
  v50 := Try.zeroValue89
  t53 := Try.underlying149
  a53 := Try.isAgg149
  z53 := Try.sizeOf149
  v53 := Try.zeroValue149
  t55 := Try.underlying152
  a55 := Try.isAgg152
  z55 := Try.sizeOf152
  v55 := Try.zeroValue152
  t66 := Try.underlying167
  a66 := Try.isAgg167
  z66 := Try.sizeOf167
  v66 := Try.zeroValue167
  t70 := Try.underlying171
  a70 := Try.isAgg171
  z70 := Try.sizeOf171
  v70 := Try.zeroValue171
  t76 := Try.underlying173
  a76 := Try.isAgg173
  z76 := Try.sizeOf173
  v76 := Try.zeroValue173
  t77 := Try.underlying174
  a77 := Try.isAgg174
  z77 := Try.sizeOf174
  v77 := Try.zeroValue174 }
end Go.Proofs.Ytkhddecnllcaiaa
end

section
/- Contracts: comparing and sorting words. -/
namespace Go.Proofs.Ytkhddecnllcaiaa
open Go.Abs Go
set_option maxRecDepth 20000
set_option maxHeartbeats 2000000
attribute [local irreducible] PreK CondK CallK CallG CallX LoopK
attribute [local simp] avsEq avEq akind teq vkind vEq

theorem isNaN_c (a : Int) : CallP Try.prog 132 [iv a] (bv false) := by
  refine C132 (by simp) ?_
  simp [A132]
def cmpI (a b : Int) : Int := if a < b then -1 else if b < a then 1 else 0
theorem cmpInt_c (a b : Int) : CallP Try.prog 114 [iv a, iv b] (iv (cmpI a b)) := by
  refine C114 (by simp) ?_
  simp [A114]
  try simp 
  repeat' (first
    | (refine CallX.pure (isNaN_c a) (by simp) (by simp) ?_; try simp )
    | (refine CallK.intro (isNaN_c a) (by simp) (by simp) ?_; try simp )
    | (refine CallG.intro (fun _ => isNaN_c a) (by simp) (by simp) ?_; try simp )
    | (refine CallX.pure (isNaN_c b) (by simp) (by simp) ?_; try simp )
    | (refine CallK.intro (isNaN_c b) (by simp) (by simp) ?_; try simp )
    | (refine CallG.intro (fun _ => isNaN_c b) (by simp) (by simp) ?_; try simp )
    | ((with_reducible refine PreK.intro ?_ ?_); (next => (first | omega | (intros; first | omega | (refine ⟨by omega, ?_⟩; repeat (first | assumption | constructor)) | assumption))); intro _; try simp )
    | fail)
  refine CondK.intro (fun h1 => ?_) (fun h1 => ?_)
  · simp at h1
  · try simp 
    repeat' (first
      | ((with_reducible refine PreK.intro ?_ ?_); (next => (first | omega | (intros; first | omega | (refine ⟨by omega, ?_⟩; repeat (first | assumption | constructor)) | assumption))); intro _; try simp )
      | fail)
    refine CondK.intro (fun h2 => ?_) (fun h2 => ?_)
    · simp at h2
    · try simp 
      repeat' (first
        | ((with_reducible refine PreK.intro ?_ ?_); (next => (first | omega | (intros; first | omega | (refine ⟨by omega, ?_⟩; repeat (first | assumption | constructor)) | assumption))); intro _; try simp )
        | fail)
      refine CondK.intro (fun h3 => ?_) (fun h3 => ?_)
      · simp at h3
        simp [cmpI, h3]
      · simp at h3
        try simp 
        repeat' (first
          | ((with_reducible refine PreK.intro ?_ ?_); (next => (first | omega | (intros; first | omega | (refine ⟨by omega, ?_⟩; repeat (first | assumption | constructor)) | assumption))); intro _; try simp )
          | fail)
        refine CondK.intro (fun h4 => ?_) (fun h4 => ?_)
        · simp at h4
          simp [cmpI, h4, show ¬ a < b by omega]
        · simp at h4
          simp [cmpI, show ¬ a < b by omega, show ¬ b < a by omega]
theorem cmpW_nil : cmpW [] [] = 0 := rfl
theorem cmpW_short (y : Int) (m : List Int) : cmpW [] (y :: m) = -1 := by simp [cmpW, bef]
theorem cmpW_long (x : Int) (l : List Int) : cmpW (x :: l) [] = 1 := by simp [cmpW, bef]
theorem cmpW_cons (x y : Int) (l m : List Int) : cmpW (x :: l) (y :: m) = if cmpI x y ≠ 0 then cmpI x y else cmpW l m := by
  unfold cmpW cmpI
  by_cases h : x = y
  · subst h; simp [bef]
  · by_cases h2 : x < y
    · simp [bef, h, h2]
    · have : y < x := by omega
      simp [bef, h, h2, this]
theorem Compare_c (a b : List Int) (ha : a.length ≤ big) (hb : b.length ≤ big) : CallP Try.prog 97 [ints a, ints b] (iv (cmpW a b)) := by
  refine C97 (by simp) ?_
  generalize hR : cmpW a b = R
  simp [A97]
  simp only [big] at ha hb
  refine LoopK.by (fun i : Nat => ⟨[(11, iv i), (10, iv a.length), (9, ints a), (0, ints a), (1, ints b)], []⟩) (fun i => a.length - i) (fun i => i ≤ a.length ∧ i ≤ b.length ∧ cmpW (a.drop i) (b.drop i) = R) 0 (by simpa using hR) (by simp) ?_
  intro i Q' ⟨hi, hib, hc⟩ hq he hr
  try simp 
  refine CondK.intro (fun h1 => ?_) (fun h1 => ?_)
  · simp at h1
    rw [drop_cons a i h1] at hc
    try simp [h1]
    repeat' (first
      | ((with_reducible refine PreK.intro ?_ ?_); (next => (first | omega | (intros; first | omega | (refine ⟨by omega, ?_⟩; repeat (first | assumption | constructor)) | assumption))); intro _; try simp [h1])
      | fail)
    refine CondK.intro (fun h2 => ?_) (fun h2 => ?_)
    · simp at h2
      rw [List.drop_eq_nil_of_le (show b.length ≤ i by omega), cmpW_long] at hc
      try simp 
      apply hr
      simp [hc]
    · simp at h2
      rw [drop_cons b i (by omega), cmpW_cons] at hc
      try simp [h2, h1]
      repeat' (first
        | (refine CallX.pure (cmpInt_c (el a i) (el b i)) (by simp) (by simp) ?_; try simp [h2, h1])
        | (refine CallK.intro (cmpInt_c (el a i) (el b i)) (by simp) (by simp) ?_; try simp [h2, h1])
        | (refine CallG.intro (fun _ => cmpInt_c (el a i) (el b i)) (by simp) (by simp) ?_; try simp [h2, h1])
        | ((with_reducible refine PreK.intro ?_ ?_); (next => (first | omega | (intros; first | omega | (refine ⟨by omega, ?_⟩; repeat (first | assumption | constructor)) | assumption))); intro _; try simp [h2, h1])
        | fail)
      refine CondK.intro (fun h3 => ?_) (fun h3 => ?_)
      · simp at h3
        rw [if_pos h3] at hc
        try simp 
        apply hr
        simp [hc]
      · simp at h3
        rw [if_neg (by simpa using h3)] at hc
        try simp 
        repeat' (first
          | ((with_reducible refine PreK.intro ?_ ?_); (next => (first | omega | (intros; first | omega | (refine ⟨by omega, ?_⟩; repeat (first | assumption | constructor)) | assumption))); intro _; try simp )
          | fail)
        exact hq (i + 1) _ ⟨by omega, by omega, hc⟩ (by omega) (by simp)
  · simp at h1
    rw [List.drop_eq_nil_of_le (by omega)] at hc
    try simp 
    apply he
    try simp 
    refine CondK.intro (fun h2 => ?_) (fun h2 => ?_)
    · simp at h2
      rw [drop_cons b i (by omega), cmpW_short] at hc
      simp [hc]
    · simp at h2
      rw [List.drop_eq_nil_of_le (by omega), cmpW_nil] at hc
      simp [hc]

/-- A list whose equal neighbours are one. -/
def compF (p : List Int) : List (List Int) → List (List Int)
  | [] => []
  | y :: l => if y = p then compF p l else y :: compF y l
def compW : List (List Int) → List (List Int)
  | [] => []
  | x :: l => x :: compF x l
theorem compF_num : ∀ (p : List Int) (l : List (List Int)), (compF p l).length ≤ l.length
  | p, [] => by simp [compF]
  | p, y :: l => by
    rw [compF]
    split
    · have := compF_num p l; simp; omega
    · have := compF_num y l; simp; omega
end Go.Proofs.Ytkhddecnllcaiaa
end

section
/- Contracts: equal neighbours left out, and the sort of words. -/
namespace Go.Proofs.Ytkhddecnllcaiaa
open Go.Abs Go
set_option maxRecDepth 20000
set_option maxHeartbeats 2000000
attribute [local irreducible] PreK CondK CallK CallG CallX LoopK
attribute [local simp] avsEq avEq akind teq vkind vEq

theorem take_setG {α : Type} [Inhabited α] (o : List α) (i : Nat) (v : α) (hi : i < o.length) : (o.set i v).take (i + 1) = o.take i ++ [v] := by
  rw [take_succ _ i (by simpa using hi)]
  have : el (o.set i v) i = v := by unfold el; simp [hi]
  rw [this, List.take_set, List.set_eq_of_length_le (by simp; omega)]
theorem compact_L (l : List (List Int)) (hl : l.length ≤ 1000) (hw : ∀ w ∈ l, w.length ≤ 1000) :
    CallL Try.prog 98 [] 1 (l.map ints) [.fn 89 [] []] (.part (compW l).length) ((compW l).map ints ++ List.replicate (l.length - (compW l).length) (.seq 1 [] true)) := by
  refine CL98 (by simp) ?_
  have hel : ∀ i, (el l i).length ≤ 1000 := by
    intro i
    by_cases h : i < l.length
    · exact hw _ (el_mem_of l i h)
    · unfold el; rw [List.getD_eq_getElem?_getD, List.getElem?_eq_none (by omega)]; simp [default]
  generalize hR : compW l = R
  simp [A98]
  refine CondK.intro (fun h1 => ?_) (fun h1 => ?_)
  · simp at h1
    have : R = l := by
      rw [← hR]
      match l, h1 with
      | [], _ => rfl
      | [x], _ => rfl
      | _ :: _ :: _, h1 => simp at h1; omega
    subst this
    simp
  · simp at h1
    try simp 
    have h0 : l.take 1 ++ compF (el l 0) (l.drop 1) = R := by
      rw [← hR]
      match l, h1 with
      | x :: m, _ => simp [compW, el]
    refine LoopK.by (fun k : Nat => ⟨[(5, iv ((k : Int) + 1)), (0, .sl lid 0 0 l.length), (1, .fn 89 [] [])], [(lid, some ⟨1, l.map ints, 0, false⟩)]⟩) (fun i => l.length - i) (fun k => k + 1 ≤ l.length ∧ l.take (k + 1) ++ compF (el l k) (l.drop (k + 1)) = R) 0 ⟨by omega, h0⟩ (by simp) ?_
    intro k Q' ⟨hk, hc⟩ hq he hr
    try simp 
    refine CondK.intro (fun h2 => ?_) (fun h2 => ?_)
    · simp at h2
      have h2' : k + 1 < l.length := by omega
      have h2'' : k < l.length := by omega
      have he1 := equal_c (el l (k + 1)) (el l k) (Nat.le_trans (hel _) (by unfold big; omega))
      rw [drop_cons l (k + 1) h2', compF] at hc
      repeat (refine PreK.intro (by first | omega | (intros; first | omega | (refine ⟨by omega, ?_⟩; simp_all; done) | (simp_all; done) | (simp_all; omega))) fun _ => ?_; (try simp [h2', h2'']))
      refine CallK.intro (by simpa using he1) (by simp) (by simp) ?_
      try simp 
      refine CondK.intro (fun h3 => ?_) (fun h3 => ?_)
      · simp at h3
        rw [if_pos h3, ← h3] at hc
        try simp 
        repeat' (first
          | ((with_reducible refine PreK.intro ?_ ?_); (next => (first | omega | (intros; first | omega | (refine ⟨by omega, ?_⟩; repeat (first | assumption | constructor)) | assumption))); intro _; try simp )
          | fail)
        refine LoopK.by (ι := Nat × Nat × List (List Int)) (fun x => ⟨[(7, iv ((x.1 : Int) + 1)), (5, iv x.2.1), (6, .sl lid 0 (k + 1) (l.length - (k + 1))), (0, .sl lid 0 0 l.length), (1, .fn 89 [] [])], [(lid, some ⟨1, x.2.2.map ints, 0, false⟩)]⟩) (fun x => l.length - x.1)
          (fun x => k + 1 + x.1 + 1 ≤ l.length ∧ x.2.1 ≤ k + 1 + x.1 ∧ x.2.2.length = l.length ∧ (∀ q, k + 1 + x.1 ≤ q → el x.2.2 q = el l q) ∧ x.2.2.take x.2.1 ++ compF (el l (k + 1 + x.1)) (l.drop (k + 1 + x.1 + 1)) = R) (0, k + 1, l) ⟨by dsimp only; omega, by simp, rfl, fun _ _ => rfl, hc⟩ (by simp) ?_
        intro ⟨j, i, c⟩ Q'' ⟨hj, hij, hcl, hce, hin⟩ hq' he' hr'
        dsimp only at hj hij hcl hce hin
        try simp 
        refine CondK.intro (fun h4 => ?_) (fun h4 => ?_)
        · simp at h4
          have h5 : k + 1 + j + 1 < l.length := by omega
          have e1 := hce (k + 1 + j) (by omega)
          have e2 := hce (k + 1 + (j + 1)) (by omega)
          have e3 : k + 1 + (j + 1) = k + 1 + j + 1 := rfl
          have g1 : k + 1 + j < c.length := by omega
          have g2 : k + 1 + (j + 1) < c.length := by omega
          have he2 := equal_c (el l (k + 1 + (j + 1))) (el l (k + 1 + j)) (Nat.le_trans (hel _) (by unfold big; omega))
          rw [drop_cons l _ h5, compF] at hin
          repeat (refine PreK.intro (by first | omega | (intros; first | omega | (refine ⟨by omega, ?_⟩; simp_all; done) | (simp_all; done) | (simp_all; omega))) fun _ => ?_; (try simp [g1, g2, e1, e2]))
          refine CallK.intro (by simpa using he2) (by simp) (by simp) ?_
          try simp 
          repeat (refine PreK.intro (by first | omega | (intros; first | omega | (refine ⟨by omega, ?_⟩; simp_all; done) | (simp_all; done) | (simp_all; omega))) fun _ => ?_; (try simp ))
          refine CondK.intro (fun h6 => ?_) (fun h6 => ?_)
          · simp at h6
            rw [if_neg (by rw [← e3]; exact h6)] at hin
            have g3 : i < c.length := by omega
            repeat (refine PreK.intro (by first | omega | (intros; first | omega | (refine ⟨by omega, ?_⟩; simp_all; done) | (simp_all; done) | (simp_all; omega))) fun _ => ?_; (try simp [g1, g2, e1, e2, g3]))
            refine hq' (j + 1, i + 1, c.set i (el l (k + 1 + (j + 1)))) _ ⟨by dsimp only; omega, by dsimp only; omega, by simpa using hcl, fun q hq2 => ?_, ?_⟩ (by dsimp only; omega) ?_
            · dsimp only at hq2 ⊢
              unfold el
              rw [List.getD_eq_getElem?_getD, List.getElem?_set, if_neg (by omega), ← List.getD_eq_getElem?_getD]
              exact hce q (by omega)
            · dsimp only
              rw [take_setG _ _ _ g3, List.append_assoc]
              exact hin
            · simp [List.map_set]
          · simp at h6
            rw [if_pos (by rw [← e3]; exact h6)] at hin
            repeat (refine PreK.intro (by first | omega | (intros; first | omega | (refine ⟨by omega, ?_⟩; simp_all; done) | (simp_all; done) | (simp_all; omega))) fun _ => ?_; (try simp ))
            refine hq' (j + 1, i, c) _ ⟨by dsimp only; omega, by dsimp only; omega, hcl, fun q hq2 => hce q (by dsimp only at hq2; omega), ?_⟩ (by dsimp only; omega) (by simp)
            dsimp only
            rw [h6]
            exact hin
        · simp at h4
          rw [List.drop_eq_nil_of_le (by omega)] at hin
          simp only [compF, List.append_nil] at hin
          have hRl : R.length = i := by rw [← hin]; simp; omega
          try simp 
          apply he'
          have e5 : (c.map ints).take i = R.map ints := by rw [← hin, List.map_take]
          have e6 : (c.map ints).drop (i + (l.length - i)) = [] := List.drop_eq_nil_of_le (by simp; omega)
          try simp 
          repeat' (first
            | ((with_reducible refine PreK.intro ?_ ?_); (next => (first | omega | (intros; first | omega | (refine ⟨by omega, ?_⟩; repeat (first | assumption | constructor)) | assumption))); intro _; try simp )
            | fail)
          apply hr
          simp only [e5, e6, hRl]
          try simp 
      · simp at h3
        rw [if_neg h3] at hc
        repeat (refine PreK.intro (by first | omega | (intros; first | omega | (refine ⟨by omega, ?_⟩; simp_all; done) | (simp_all; done) | (simp_all; omega))) fun _ => ?_; (try simp ))
        refine hq (k + 1) _ ⟨by omega, ?_⟩ (by omega) (by simp)
        rw [take_succ l (k + 1) h2']
        simpa using hc
    · simp at h2
      rw [List.drop_eq_nil_of_le (by omega)] at hc
      simp only [compF, List.append_nil] at hc
      rw [List.take_of_length_le (by omega)] at hc
      subst hc
      try simp 
      apply he
      try simp 
      repeat' (first
        | ((with_reducible refine PreK.intro ?_ ?_); (next => (first | omega | (intros; first | omega | (refine ⟨by omega, ?_⟩; repeat (first | assumption | constructor)) | assumption))); intro _; try simp )
        | fail)
end Go.Proofs.Ytkhddecnllcaiaa
end

section
/- Contracts: the sorted list of words. -/
namespace Go.Proofs.Ytkhddecnllcaiaa
open Go.Abs Go
set_option maxRecDepth 20000
set_option maxHeartbeats 2000000
attribute [local irreducible] PreK CondK CallK CallG CallX LoopK
attribute [local simp] avsEq avEq akind teq vkind vEq

theorem sortW_len (l : List (List Int)) : (sortW l).length = l.length := (sortW_perm l).length_eq
theorem sorted_L (l : List (List Int)) (hl : l.length ≤ 1000) (hw : ∀ w ∈ l, w.length ≤ 1000) :
    CallL Try.prog 58 [] 1 (l.map ints) [] (.part (compW (sortW l)).length) ((compW (sortW l)).map ints ++ List.replicate (l.length - (compW (sortW l)).length) (.seq 1 [] true)) := by
  refine CL58 (by simp) ?_
  have h1 : CallL Try.prog 96 [] 1 (l.map ints) [.fn 97 [] []] (.val (.tup [])) ((sortW l).map ints) := callL_sort lsort Compare_c l
  have h2 := compact_L (sortW l) (by rw [sortW_len]; exact hl) (fun w h => hw w ((sortW_perm l).mem_iff.1 h))
  have hsl := sortW_len l
  have hnum : (compW (sortW l)).length ≤ l.length := by
    rw [← hsl]
    cases sortW l with
    | nil => simp [compW]
    | cons x m => simp only [compW, List.length_cons]; have := compF_num x m; omega
  generalize sortW l = s at h1 h2 hsl hnum
  generalize compW s = c at h2 hnum
  simp [A58]
  refine CallX.lend [] (id := lid) (ver := 0) (n := l.length) (b := ⟨1, l.map ints, 0, false⟩) [.fn 97 [] []] (.val (.tup [])) _ (by simp) (by simp) (by simp) (by simp) (by simp) (by simp) (by simp) (by simpa using h1) ?_
  try simp 
  refine CallX.lend [] (id := lid) (ver := 0) (n := l.length) (b := ⟨1, s.map ints, 0, false⟩) [.fn 89 [] []] (.part c.length) _ (by simp) (by simp) (by simp) (by simp) (by simp [hsl]) (by simp) (by simp) (by simpa using h2) ?_
  simp [hsl]
end Go.Proofs.Ytkhddecnllcaiaa
end
