/- Part 7 of the proof: the value layer and the contracts of the functions that the statement reaches; proved without conditions beyond those each theorem states. -/
import Derived.Shelf.SlSortCmp.Whole1
import Derived.Shelf.SlSortCmp.NoneTotal
import Derived.Test.YtphkchjhghdhiaaGreatProg
import Derived.Shelf.Sort.Plain
import Derived.Shelf.Slices.In.SortNone
import Derived.Shelf.SlSortCmp.WholeK
import Derived.Test.YtphkchjhghdhiaaGreatV6
set_option linter.unusedSimpArgs false
set_option linter.unusedVariables false

section
/- Plain: families of sets, orders that they fit, marks, and the table that is cut out of an order. -/
namespace Go.Proofs.YtphkchjhghdhiaaGreat
open Go.Abs Go

/-! ### valid families -/
def setG (hi : Int) : Option Int → List Int → Bool
  | _, [] => true
  | p, x :: r => (decide (0 ≤ x) && decide (x ≤ hi)) && lessO p x && setG hi (some x) r
theorem setG_spec {hi : Int} : ∀ {l : List Int} {p : Option Int}, setG hi p l = true → (∀ x ∈ l, 0 ≤ x ∧ x ≤ hi) ∧ l.Pairwise (· < ·) ∧ ∀ y, p = some y → ∀ x ∈ l, y < x
  | [], p, _ => by simp
  | x :: l, p, h => by
    simp only [setG, Bool.and_eq_true, decide_eq_true_eq] at h
    obtain ⟨h1, h2, h3⟩ := setG_spec h.2
    have h4 := h3 x rfl
    refine ⟨fun y hy => ?_, List.pairwise_cons.2 ⟨h4, h2⟩, fun y hp z hz => ?_⟩
    · rcases List.mem_cons.1 hy with rfl | hy
      · exact h.1.1
      · exact h1 y hy
    · subst hp
      have h5 := h.1.2
      simp only [lessO, decide_eq_true_eq] at h5
      rcases List.mem_cons.1 hz with rfl | hz
      · exact h5
      · have := h4 z hz; omega
def famBad (n : Int) (set : List Int) : Bool := decide (set = []) || !setG (n - 1) none set
def famErr (n : Int) (f : List (List Int)) : Int := if !(decide (1 ≤ n) && decide (n ≤ 6)) then 1 else if 6 < f.length then 3 else if f.any (famBad n) then 1 else 0
structure FamOK (n : Nat) (f : List (List Int)) : Prop where
  lo : 1 ≤ n
  hi : n ≤ 6
  num : f.length ≤ 6
  ne : ∀ s ∈ f, s ≠ []
  up : ∀ s ∈ f, s.Pairwise (· < ·)
  val : ∀ s ∈ f, ∀ x ∈ s, 0 ≤ x ∧ x < n
theorem famErr_zero {n : Int} {f : List (List Int)} (h : famErr n f = 0) : ∃ k : Nat, n = k ∧ FamOK k f := by
  unfold famErr at h
  split at h
  · cases h
  · rename_i h1
    split at h
    · cases h
    · rename_i h2
      split at h
      · cases h
      · rename_i h3
        simp only [Bool.not_eq_true', Bool.not_eq_false, Bool.and_eq_true, decide_eq_true_eq] at h1
        have h3' : f.any (famBad n) = false := by simpa using h3
        rw [List.any_eq_false] at h3'
        have h4 : ∀ s ∈ f, s ≠ [] ∧ setG (n - 1) none s = true := by
          intro s hs
          have := h3' s hs
          simpa [famBad] using this
        refine ⟨n.toNat, by omega, by omega, by omega, by omega, fun s hs => (h4 s hs).1, fun s hs => (setG_spec (h4 s hs).2).2.1, fun s hs x hx => ?_⟩
        have := (setG_spec (h4 s hs).2).1 x hx
        omega
theorem nodup_mapG {α β : Type} {f : α → β} : ∀ {l : List α}, l.Nodup → (∀ x ∈ l, ∀ y ∈ l, f x = f y → x = y) → (l.map f).Nodup
  | [], _, _ => by simp
  | x :: l, h, hi => by
    rw [List.nodup_cons] at h
    rw [List.map_cons, List.nodup_cons]
    refine ⟨fun hx => ?_, nodup_mapG h.2 fun a ha b hb => hi a (by simp [ha]) b (by simp [hb])⟩
    obtain ⟨y, hy, e⟩ := List.mem_map.1 hx
    have := hi y (by simp [hy]) x (by simp) e
    subst this
    exact h.1 hy
/-! ### orders -/
def idsN (n : Nat) : List Int := (List.range n).map fun i : Nat => (i : Int)
theorem mem_ids {n : Nat} {x : Int} : x ∈ idsN n ↔ 0 ≤ x ∧ x < n := by
  unfold idsN
  rw [List.mem_map]
  constructor
  · rintro ⟨i, hi, rfl⟩
    rw [List.mem_range] at hi
    omega
  · rintro ⟨h1, h2⟩
    exact ⟨x.toNat, by rw [List.mem_range]; omega, by omega⟩
theorem ids_len (n : Nat) : (idsN n).length = n := by simp [idsN]
theorem ids_nodup (n : Nat) : (idsN n).Nodup := by
  unfold idsN
  exact nodup_mapG List.nodup_range fun a _ b _ h => by omega
structure OrdOK (n : Nat) (o : List Int) : Prop where
  len : o.length = n
  nd : o.Nodup
  mem : ∀ x, x ∈ o ↔ 0 ≤ x ∧ x < n
theorem ordOK_of_perm {n : Nat} {o : List Int} (h : (idsN n).Perm o) : OrdOK n o :=
  ⟨by rw [← h.length_eq, ids_len], h.nodup_iff.1 (ids_nodup n), fun x => by rw [← h.mem_iff, mem_ids]⟩
/-! ### where sets end in an order -/
def posO (o : List Int) (s : Int) : Int := idxF (fun x => decide (s = x)) 0 o
def flP (o : List Int) : List Int → Int × Int → Int × Int
  | [], p => p
  | s :: l, p => flP o l (min p.1 (posO o s), max p.2 (posO o s))
def edges (o set : List Int) : Int × Int := flP o set (o.length, -1)
def fit1 (o set : List Int) : Bool := decide ((edges o set).2 - (edges o set).1 + 1 = set.length)
def fitsM (o : List Int) (f : List (List Int)) : Bool := f.all (fit1 o)
def lastsM (o : List Int) (f : List (List Int)) : List Int := f.map fun s => (edges o s).2
/-- A place of an order at which a set's sound stands. -/
def Hit (set o : List Int) (i : Nat) : Prop := i < o.length ∧ el o i ∈ set
/-- What the edges of a set are. -/
structure EdgeOK (o set : List Int) (p : Int × Int) : Prop where
  fst : ∃ i, Hit set o i ∧ p.1 = i
  lst : ∃ i, Hit set o i ∧ p.2 = i
  all : ∀ i, Hit set o i → p.1 ≤ i ∧ (i : Int) ≤ p.2
theorem EdgeOK.uniq {o set : List Int} {p q : Int × Int} (h : EdgeOK o set p) (k : EdgeOK o set q) : p = q := by
  obtain ⟨i1, a1, b1⟩ := h.fst
  obtain ⟨i2, a2, b2⟩ := h.lst
  obtain ⟨j1, c1, d1⟩ := k.fst
  obtain ⟨j2, c2, d2⟩ := k.lst
  have e1 := h.all _ c1
  have e2 := h.all _ c2
  have e3 := k.all _ a1
  have e4 := k.all _ a2
  exact Prod.ext (by omega) (by omega)
/-! ### marks -/
def marksM (o : List Int) (f : List (List Int)) : List Int := compI (sortI (lastsM o f ++ [(o.length : Int) - 1]))
/-! ### all orders -/
def kidsO (n : Nat) (b : List Int) : List (List Int) := ((idsN n).filter fun s => !b.contains s).map fun s => b ++ [s]
def ordF (n : Nat) : Nat → List Int → List (List Int)
  | 0, b => [b]
  | m + 1, b => (kidsO n b).flatMap (ordF n m)
def allO (n : Nat) : List (List Int) := ordF n n []
theorem mem_kids {n : Nat} {b x : List Int} : x ∈ kidsO n b ↔ ∃ s : Int, 0 ≤ s ∧ s < n ∧ s ∉ b ∧ x = b ++ [s] := by
  unfold kidsO
  rw [List.mem_map]
  constructor
  · rintro ⟨s, hs, rfl⟩
    rw [List.mem_filter, mem_ids] at hs
    exact ⟨s, hs.1.1, hs.1.2, by simpa using hs.2, rfl⟩
  · rintro ⟨s, h1, h2, h3, rfl⟩
    exact ⟨s, by rw [List.mem_filter, mem_ids]; exact ⟨⟨h1, h2⟩, by simpa using h3⟩, rfl⟩
theorem ord_ok {n : Nat} : ∀ {m : Nat} {b o : List Int}, b.Nodup → (∀ x ∈ b, 0 ≤ x ∧ x < n) → b.length + m = n → o ∈ ordF n m b → OrdOK n o
  | 0, b, o, h1, h2, h3, h => by
    simp only [ordF, List.mem_singleton] at h
    subst h
    refine ordOK_of_perm (perm_of_sub h1 (fun x hx => mem_ids.2 (h2 x hx)) (by rw [ids_len]; omega)).symm
  | m + 1, b, o, h1, h2, h3, h => by
    rw [ordF, List.mem_flatMap] at h
    obtain ⟨c, hc, ho⟩ := h
    obtain ⟨s, a1, a2, a3, rfl⟩ := mem_kids.1 hc
    refine ord_ok ?_ (fun x hx => ?_) (by simp; omega) ho
    · rw [List.nodup_append]
      exact ⟨h1, by simp, fun x hx y hy e => by simp only [List.mem_singleton] at hy; subst hy; subst e; exact a3 hx⟩
    · rcases List.mem_append.1 hx with hx | hx
      · exact h2 x hx
      · simp only [List.mem_singleton] at hx; subst hx; exact ⟨a1, a2⟩
theorem ord_mem {n : Nat} : ∀ {m : Nat} {b r : List Int}, (b ++ r).Nodup → (∀ x ∈ b ++ r, 0 ≤ x ∧ x < n) → r.length = m → b ++ r ∈ ordF n m b
  | 0, b, r, _, _, h => by
    have : r = [] := List.eq_nil_of_length_eq_zero h
    subst this
    simp [ordF]
  | m + 1, b, s :: r, h1, h2, h => by
    rw [ordF, List.mem_flatMap]
    have e : b ++ s :: r = (b ++ [s]) ++ r := by simp
    have h3 : s ∉ b := by
      rw [List.nodup_append] at h1
      exact fun hs => h1.2.2 s hs s (by simp) rfl
    refine ⟨b ++ [s], mem_kids.2 ⟨s, (h2 s (by simp)).1, (h2 s (by simp)).2, h3, rfl⟩, ?_⟩
    rw [e]
    exact ord_mem (by rw [← e]; exact h1) (by rw [← e]; exact h2) (by simpa using h)
theorem mem_allO {n : Nat} {o : List Int} : o ∈ allO n ↔ OrdOK n o := by
  unfold allO
  constructor
  · intro h
    exact ord_ok (by simp) (by simp) (by simp) h
  · intro h
    have := ord_mem (n := n) (b := []) (r := o) (by simpa using h.nd) (fun x hx => (h.mem x).1 (by simpa using hx)) h.len
    simpa using this
theorem flat_len {α β : Type} (f : α → List β) (c : Nat) : ∀ l : List α, (∀ x ∈ l, (f x).length ≤ c) → (l.flatMap f).length ≤ l.length * c
  | [], _ => by simp
  | x :: l, h => by
    have h1 := flat_len f c l fun y hy => h y (by simp [hy])
    have h2 := h x (by simp)
    rw [List.flatMap_cons, List.length_append, List.length_cons, Nat.succ_mul]
    omega

/-! ### the first order, and the best one -/
/-- A list is told to someone, one by one, till he says stop. -/
def runT {σ : Type} (step : σ → List Int → σ × Bool) : σ → List (List Int) → σ × Bool
  | s, [] => (s, true)
  | s, o :: l => if (step s o).2 then runT step (step s o).1 l else ((step s o).1, false)
theorem runT_append {σ : Type} (step : σ → List Int → σ × Bool) : ∀ (l m : List (List Int)) (s : σ), runT step s (l ++ m) = if (runT step s l).2 then runT step (runT step s l).1 m else runT step s l
  | [], m, s => by simp [runT]
  | o :: l, m, s => by
    rw [List.cons_append, runT, runT]
    split
    · exact runT_append step l m _
    · rfl
def OrderM (n : Nat) (f : List (List Int)) : List Int × Bool := match (allO n).find? fun o => fitsM o f with
  | some o => (o, true)
  | none => ([], false)
def stepO (f : List (List Int)) (s : List Int) (o : List Int) : List Int × Bool := if fitsM o f then (o, decide (o = [])) else (s, decide (s = []))
theorem run_order (f : List (List Int)) : ∀ l : List (List Int), (∀ o ∈ l, o ≠ []) → (runT (stepO f) [] l).1 = match l.find? fun o => fitsM o f with | some o => o | none => []
  | [], _ => rfl
  | o :: l, h => by
    rw [runT, List.find?_cons]
    have h0 := h o (by simp)
    cases hf : fitsM o f with
    | true => simp [stepO, hf, h0]
    | false =>
      have : stepO f [] o = ([], true) := by simp [stepO, hf]
      rw [this, if_pos rfl]
      exact run_order f l fun x hx => h x (by simp [hx])
theorem order_spec {n : Nat} (h0 : 1 ≤ n) (f : List (List Int)) : OrderM n f = ((runT (stepO f) [] (allO n)).1, decide ((runT (stepO f) [] (allO n)).1 ≠ [])) := by
  have hne : ∀ o ∈ allO n, o ≠ [] := by
    intro o ho e
    have := (mem_allO.1 ho).len
    subst e
    simp at this
    omega
  rw [run_order f _ hne]
  unfold OrderM
  cases hf : (allO n).find? fun o => fitsM o f with
  | none => simp
  | some o =>
    have := hne o (List.mem_of_find?_eq_some hf)
    simp [this]
/-- What the best so far is. -/
structure BestOK (n : Nat) (f : List (List Int)) (s : List Int × List Int) (b : Int) : Prop where
  few : b = s.2.length
  nil : s.1 = [] ↔ b = 0
  ok : s.1 ≠ [] → OrdOK n s.1 ∧ fitsM s.1 f = true ∧ s.2 = marksM s.1 f
/-! ### the table that is cut out of an order -/
def cutM (o : List Int) : Nat → List Int → List (List Int)
  | _, [] => []
  | k, e :: l => (o.take (e.toNat + 1)).drop k :: cutM o (e.toNat + 1) l
theorem cut_len (o : List Int) : ∀ (l : List Int) (k : Nat), (cutM o k l).length = l.length
  | [], k => rfl
  | e :: l, k => by simp [cutM, cut_len o l]
theorem take_drop_join {α : Type} (o : List α) {k e q : Nat} (h1 : k ≤ e) (h2 : e ≤ q) (h3 : e ≤ o.length) : (o.take e).drop k ++ (o.take q).drop e = (o.take q).drop k := by
  have h4 : o.take q = o.take e ++ (o.take q).drop e := by
    conv => lhs; rw [← List.take_append_drop e (o.take q)]
    rw [List.take_take, Nat.min_eq_left h2]
  have h5 : (o.take q).drop k = (o.take e ++ (o.take q).drop e).drop k := by rw [← h4]
  rw [h5, List.drop_append_of_le_length (by rw [List.length_take]; omega)]
theorem cut_pre (o : List Int) : ∀ (l : List Int) (k r : Nat), (∀ e ∈ l, (k : Int) ≤ e ∧ e < o.length) → l.Pairwise (· < ·) → r < l.length → ((cutM o k l).take (r + 1)).flatten = (o.take ((el l r).toNat + 1)).drop k
  | [], k, r, _, _, h => by simp at h
  | e :: l, k, 0, h1, h2, h => by simp [cutM, el]
  | e :: l, k, r + 1, h1, h2, h => by
    rw [List.pairwise_cons] at h2
    have h3 := h1 e (by simp)
    have h4 : ∀ x ∈ l, ((e.toNat + 1 : Nat) : Int) ≤ x ∧ x < o.length := fun x hx => by
      have := h2.1 x hx
      have := h1 x (by simp [hx])
      omega
    have hr : r < l.length := by simpa using h
    have ih := cut_pre o l (e.toNat + 1) r h4 h2.2 hr
    have e1 : el (e :: l) (r + 1) = el l r := by simp [el]
    rw [cutM, List.take_succ_cons, List.flatten_cons, ih, e1]
    have h5 := h4 _ (el_mem_of l r hr)
    generalize (el l r) = q at *
    exact take_drop_join o (by omega) (by omega) (by omega)
/-- Where an order may be cut. -/
structure CutOK (n : Nat) (o l : List Int) : Prop where
  ord : OrdOK n o
  lo : 1 ≤ n
  hi : n ≤ 6
  up : l.Pairwise (· < ·)
  val : ∀ e ∈ l, 0 ≤ e ∧ e < n
  last : (n : Int) - 1 ∈ l
theorem el_last {l : List Int} {x : Int} (h : l.Pairwise (· < ·)) (hx : x ∈ l) (hm : ∀ y ∈ l, y ≤ x) : el l (l.length - 1) = x := by
  obtain ⟨i, hi, e⟩ := List.getElem_of_mem hx
  have h1 : el l i = x := by simp only [el, List.getD_eq_getElem?_getD, List.getElem?_eq_getElem hi, Option.getD_some]; exact e
  by_cases h2 : i = l.length - 1
  · rw [← h2]; exact h1
  · have h3 := List.pairwise_iff_getElem.1 h i (l.length - 1) hi (by omega) (by omega)
    have h4 := hm _ (List.getElem_mem (show l.length - 1 < l.length by omega))
    omega
variable {n : Nat} {o l : List Int}
theorem CutOK.bnd (h : CutOK n o l) : ∀ e ∈ l, ((0 : Nat) : Int) ≤ e ∧ e < o.length := fun e he => by
  have := h.val e he
  rw [h.ord.len]
  omega
theorem CutOK.pos (h : CutOK n o l) : 1 ≤ l.length := by
  have := List.length_pos_of_mem h.last
  omega
theorem CutOK.pre (h : CutOK n o l) {r : Nat} (hr : r < l.length) : preT (cutM o 0 l) r = o.take ((el l r).toNat + 1) := by
  unfold preT
  rw [cut_pre o l 0 r h.bnd h.up hr, List.drop_zero]
theorem CutOK.flat (h : CutOK n o l) : (cutM o 0 l).flatten = o := by
  have h0 := h.pos
  have h1 := h.pre (r := l.length - 1) (by omega)
  have h2 := h.ord.len
  have h3 := h.lo
  unfold preT at h1
  rw [List.take_of_length_le (by rw [cut_len]; omega), el_last h.up h.last fun y hy => by have := h.val y hy; omega, List.take_of_length_le (by omega)] at h1
  exact h1
end Go.Proofs.YtphkchjhghdhiaaGreat
end

section
/- Functions of the cut as the value layer reads them. (written by gen.py) -/
set_option maxRecDepth 20000
namespace Go.Proofs.YtphkchjhghdhiaaGreat
open Go.Abs Go

def A16 : ACode :=
  (.seq (.reg [] [⟨some 6, (.assign (.const (.bool false))), 4, none⟩])
    (.seq (.reg [] [⟨some 7, (.move (.tmp 0)), 3, none⟩,
      ⟨some 8, (.move (.tmp 1)), 3, none⟩,
      ⟨some 9, (.binOp .geq 3 (.tmp 7) (.tmp 8) 3), 4, none⟩,
      ⟨some 10, (.move (.tmp 9)), 4, none⟩,
      ⟨some 11, (.move (.tmp 0)), 3, some (10, true)⟩,
      ⟨some 12, (.move (.tmp 2)), 3, some (10, true)⟩,
      ⟨some 13, (.binOp .leq 3 (.tmp 11) (.tmp 12) 3), 4, some (10, true)⟩,
      ⟨some 14, (.pick (.tmp 10) (.tmp 13) (.const (.bool false))), 4, none⟩,
      ⟨some 6, (.assign (.tmp 14)), 4, none⟩])
    .ret))
theorem C16 {args : List AV} {r : AV} (hn : args.length ≤ 15) (h : vc Tryz.prog T [] A16 (Fin T [(.tmp 6)] r) ⟨envOf 0 args, []⟩) : CallP Tryz.prog 16 args r :=
  callP_of tok mixed Tryz.func16 (by kernel_rfl) (by kernel_rfl) (by kernel_rfl : Tryz.f16.ntmps = 15) (by kernel_rfl : Tryz.f16.body.bind (strip 15 (fun _ => [])) = some A16) hn h
def A15 : ACode :=
  (.seq (.reg [] [⟨some 2, (.assign (.const (.int .i64 0))), 26, none⟩])
    (.seq (.seq (.reg [] [⟨some 6, (.move (.tmp 0)), 22, none⟩,
      ⟨some 7, (.call ⟨(.builtin .len), #[(.tmp 6)], #[22]⟩), 3, none⟩,
      ⟨some 8, (.call ⟨(.value (.func 16)), #[(.tmp 7), (.const (.int .i64 1)), (.const (.int .i64 6))], #[3, 3, 3]⟩), 4, none⟩,
      ⟨some 9, (.unOp .not 4 (.tmp 8)), 4, none⟩])
    (.cond (.tmp 9)
    (.seq (.reg [] [⟨some 2, (.assign (.const (.int .i64 3))), 26, none⟩])
    .ret)
    .skip))
    (.seq (.seq (.reg [] [⟨some 10, (.move (.tmp 0)), 22, none⟩,
      ⟨some 11, (.call ⟨(.builtin .len), #[(.tmp 10)], #[22]⟩), 3, none⟩,
      ⟨some 12, (.move (.const (.int .i64 0))), 3, none⟩])
    (.block 0 (.loop (.seq (.reg [] [⟨some 13, (.binOp .lss 3 (.tmp 12) (.tmp 11) 3), 0, none⟩])
    (.seq (.cond (.tmp 13)
    .skip
    (.exit 0))
    (.seq (.block 1 (.seq (.reg [] [⟨some 14, (.indexAddr 22 (.tmp 10) (.tmp 12)), 0, none⟩,
      ⟨some 15, (.load 32 (.tmp 14)), 32, none⟩,
      ⟨some 4, (.assign (.tmp 15)), 32, none⟩])
    (.seq (.reg [] [⟨some 16, (.move (.tmp 4)), 32, none⟩,
      ⟨some 17, (.call ⟨(.builtin .len), #[(.tmp 16)], #[32]⟩), 3, none⟩,
      ⟨some 18, (.binOp .eql 3 (.tmp 17) (.const (.int .i64 0)) 3), 4, none⟩,
      ⟨some 19, (.move (.tmp 18)), 4, none⟩,
      ⟨some 20, (.move (.tmp 4)), 32, some (19, false)⟩,
      ⟨some 21, (.call ⟨(.value (.func 29)), #[(.tmp 20), (.func 30)], #[32, 48]⟩), 4, some (19, false)⟩,
      ⟨some 22, (.pick (.tmp 19) (.const (.bool true)) (.tmp 21)), 4, none⟩])
    (.cond (.tmp 22)
    (.seq (.reg [] [⟨some 2, (.assign (.const (.int .i64 1))), 26, none⟩])
    .ret)
    .skip))))
    (.reg [] [⟨some 23, (.binOp .add 3 (.tmp 12) (.const (.int .i64 1)) 3), 3, none⟩,
      ⟨some 12, (.move (.tmp 23)), 3, none⟩])))))))
    (.seq (.reg [] [⟨some 24, (.move (.tmp 0)), 22, none⟩,
      ⟨some 25, (.call ⟨(.value (.func 23)), #[(.tmp 24)], #[22]⟩), 32, none⟩,
      ⟨some 5, (.assign (.tmp 25)), 32, none⟩])
    (.seq (.reg [] [⟨some 26, (.move (.tmp 5)), 32, none⟩,
      ⟨some 27, (.call ⟨(.value (.func 31)), #[(.tmp 26)], #[32]⟩), 0, none⟩])
    (.seq (.seq (.reg [] [⟨some 28, (.move (.tmp 5)), 32, none⟩,
      ⟨some 29, (.call ⟨(.value (.func 19)), #[(.tmp 28)], #[32]⟩), 32, none⟩,
      ⟨some 30, (.call ⟨(.value (.func 32)), #[(.tmp 29)], #[32]⟩), 32, none⟩,
      ⟨some 31, (.call ⟨(.builtin .len), #[(.tmp 30)], #[32]⟩), 3, none⟩,
      ⟨some 32, (.move (.tmp 5)), 32, none⟩,
      ⟨some 33, (.call ⟨(.builtin .len), #[(.tmp 32)], #[32]⟩), 3, none⟩,
      ⟨some 34, (.binOp .lss 3 (.tmp 31) (.tmp 33) 3), 4, none⟩])
    (.cond (.tmp 34)
    (.seq (.reg [] [⟨some 2, (.assign (.const (.int .i64 5))), 26, none⟩])
    .ret)
    .skip))
    (.seq (.reg [] [⟨some 2, (.assign (.const (.int .i64 0))), 26, none⟩])
    .ret)))))))
theorem C15 {args : List AV} {r : AV} (hn : args.length ≤ 35) (h : vc Tryz.prog T [] A15 (Fin T [(.tmp 2)] r) ⟨envOf 0 args, []⟩) : CallP Tryz.prog 15 args r :=
  callP_of tok mixed Tryz.func15 (by kernel_rfl) (by kernel_rfl) (by kernel_rfl : Tryz.f15.ntmps = 35) (by kernel_rfl : Tryz.f15.body.bind (strip 35 (fun _ => [])) = some A15) hn h
def A30 : ACode :=
  (.seq (.reg [] [⟨some 2, (.assign (.const (.bool false))), 4, none⟩])
    (.seq (.reg [] [⟨some 3, (.move (.tmp 0)), 3, none⟩,
      ⟨some 4, (.call ⟨(.value (.func 16)), #[(.tmp 3), (.const (.int .i64 0)), (.const (.int .i64 5))], #[3, 3, 3]⟩), 4, none⟩,
      ⟨some 5, (.unOp .not 4 (.tmp 4)), 4, none⟩,
      ⟨some 2, (.assign (.tmp 5)), 4, none⟩])
    .ret))
theorem C30 {args : List AV} {r : AV} (hn : args.length ≤ 6) (h : vc Tryz.prog T [] A30 (Fin T [(.tmp 2)] r) ⟨envOf 0 args, []⟩) : CallP Tryz.prog 30 args r :=
  callP_of tok mixed Tryz.func30 (by kernel_rfl) (by kernel_rfl) (by kernel_rfl : Tryz.f30.ntmps = 6) (by kernel_rfl : Tryz.f30.body.bind (strip 6 (fun _ => [])) = some A30) hn h
def A47 : ACode :=
  (.seq (.reg [] [⟨some 4, (.assign (.const (.bool false))), 4, none⟩])
    (.seq (.seq (.reg [] [⟨some 7, (.move (.tmp 0)), 32, none⟩,
      ⟨some 8, (.call ⟨(.builtin .len), #[(.tmp 7)], #[32]⟩), 3, none⟩,
      ⟨some 9, (.move (.const (.int .i64 0))), 3, none⟩])
    (.block 0 (.loop (.seq (.reg [] [⟨some 10, (.binOp .lss 3 (.tmp 9) (.tmp 8) 3), 0, none⟩])
    (.seq (.cond (.tmp 10)
    .skip
    (.exit 0))
    (.seq (.block 1 (.seq (.reg [] [⟨some 11, (.move (.tmp 9)), 3, none⟩,
      ⟨some 12, (.indexAddr 32 (.tmp 7) (.tmp 9)), 0, none⟩,
      ⟨some 13, (.load 3 (.tmp 12)), 3, none⟩,
      ⟨some 5, (.assign (.tmp 11)), 3, none⟩,
      ⟨some 6, (.assign (.tmp 13)), 3, none⟩])
    (.seq (.reg [] [⟨some 14, (.move (.tmp 6)), 3, none⟩,
      ⟨some 15, (.move (.tmp 1)), 3, none⟩,
      ⟨some 16, (.binOp .sub 3 (.tmp 15) (.const (.int .i64 1)) 3), 3, none⟩,
      ⟨some 17, (.call ⟨(.value (.func 16)), #[(.tmp 14), (.const (.int .i64 0)), (.tmp 16)], #[3, 3, 3]⟩), 4, none⟩,
      ⟨some 18, (.unOp .not 4 (.tmp 17)), 4, none⟩,
      ⟨some 19, (.move (.tmp 18)), 4, none⟩,
      ⟨some 20, (.move (.tmp 5)), 3, some (19, false)⟩,
      ⟨some 21, (.binOp .gtr 3 (.tmp 20) (.const (.int .i64 0)) 3), 4, some (19, false)⟩,
      ⟨some 22, (.move (.tmp 21)), 4, some (19, false)⟩,
      ⟨some 23, (.move (.tmp 6)), 3, some (22, true)⟩,
      ⟨some 24, (.move (.tmp 0)), 32, some (22, true)⟩,
      ⟨some 25, (.move (.tmp 5)), 3, some (22, true)⟩,
      ⟨some 26, (.binOp .sub 3 (.tmp 25) (.const (.int .i64 1)) 3), 3, some (22, true)⟩,
      ⟨some 27, (.indexAddr 32 (.tmp 24) (.tmp 26)), 0, some (22, true)⟩,
      ⟨some 28, (.load 3 (.tmp 27)), 3, some (22, true)⟩,
      ⟨some 29, (.binOp .leq 3 (.tmp 23) (.tmp 28) 3), 4, some (22, true)⟩,
      ⟨some 30, (.pick (.tmp 22) (.tmp 29) (.const (.bool false))), 4, some (19, false)⟩,
      ⟨some 31, (.pick (.tmp 19) (.const (.bool true)) (.tmp 30)), 4, none⟩])
    (.cond (.tmp 31)
    (.seq (.reg [] [⟨some 4, (.assign (.const (.bool false))), 4, none⟩])
    .ret)
    .skip))))
    (.reg [] [⟨some 32, (.binOp .add 3 (.tmp 9) (.const (.int .i64 1)) 3), 3, none⟩,
      ⟨some 9, (.move (.tmp 32)), 3, none⟩])))))))
    (.seq (.reg [] [⟨some 4, (.assign (.const (.bool true))), 4, none⟩])
    .ret)))
theorem C47 {args : List AV} {r : AV} (hn : args.length ≤ 33) (h : vc Tryz.prog T [] A47 (Fin T [(.tmp 4)] r) ⟨envOf 0 args, []⟩) : CallP Tryz.prog 47 args r :=
  callP_of tok mixed Tryz.func47 (by kernel_rfl) (by kernel_rfl) (by kernel_rfl : Tryz.f47.ntmps = 33) (by kernel_rfl : Tryz.f47.body.bind (strip 33 (fun _ => [])) = some A47) hn h
def A25 : ACode :=
  (.seq (.reg [] [⟨some 4, (.assign (.const (.int .i64 0))), 26, none⟩])
    (.seq (.seq (.reg [] [⟨some 7, (.move (.tmp 0)), 3, none⟩,
      ⟨some 8, (.call ⟨(.value (.func 16)), #[(.tmp 7), (.const (.int .i64 1)), (.const (.int .i64 6))], #[3, 3, 3]⟩), 4, none⟩,
      ⟨some 9, (.unOp .not 4 (.tmp 8)), 4, none⟩])
    (.cond (.tmp 9)
    (.seq (.reg [] [⟨some 4, (.assign (.const (.int .i64 1))), 26, none⟩])
    .ret)
    .skip))
    (.seq (.seq (.reg [] [⟨some 10, (.move (.tmp 1)), 22, none⟩,
      ⟨some 11, (.call ⟨(.builtin .len), #[(.tmp 10)], #[22]⟩), 3, none⟩,
      ⟨some 12, (.binOp .gtr 3 (.tmp 11) (.const (.int .i64 6)) 3), 4, none⟩])
    (.cond (.tmp 12)
    (.seq (.reg [] [⟨some 4, (.assign (.const (.int .i64 3))), 26, none⟩])
    .ret)
    .skip))
    (.seq (.seq (.reg [] [⟨some 13, (.move (.tmp 1)), 22, none⟩,
      ⟨some 14, (.call ⟨(.builtin .len), #[(.tmp 13)], #[22]⟩), 3, none⟩,
      ⟨some 15, (.move (.const (.int .i64 0))), 3, none⟩])
    (.block 0 (.loop (.seq (.reg [] [⟨some 16, (.binOp .lss 3 (.tmp 15) (.tmp 14) 3), 0, none⟩])
    (.seq (.cond (.tmp 16)
    .skip
    (.exit 0))
    (.seq (.block 1 (.seq (.reg [] [⟨some 17, (.indexAddr 22 (.tmp 13) (.tmp 15)), 0, none⟩,
      ⟨some 18, (.load 32 (.tmp 17)), 32, none⟩,
      ⟨some 6, (.assign (.tmp 18)), 32, none⟩])
    (.seq (.reg [] [⟨some 19, (.move (.tmp 6)), 32, none⟩,
      ⟨some 20, (.call ⟨(.builtin .len), #[(.tmp 19)], #[32]⟩), 3, none⟩,
      ⟨some 21, (.binOp .eql 3 (.tmp 20) (.const (.int .i64 0)) 3), 4, none⟩,
      ⟨some 22, (.move (.tmp 21)), 4, none⟩,
      ⟨some 23, (.move (.tmp 6)), 32, some (22, false)⟩,
      ⟨some 24, (.move (.tmp 0)), 3, some (22, false)⟩,
      ⟨some 25, (.call ⟨(.value (.func 47)), #[(.tmp 23), (.tmp 24)], #[32, 3]⟩), 4, some (22, false)⟩,
      ⟨some 26, (.unOp .not 4 (.tmp 25)), 4, some (22, false)⟩,
      ⟨some 27, (.pick (.tmp 22) (.const (.bool true)) (.tmp 26)), 4, none⟩])
    (.cond (.tmp 27)
    (.seq (.reg [] [⟨some 4, (.assign (.const (.int .i64 1))), 26, none⟩])
    .ret)
    .skip))))
    (.reg [] [⟨some 28, (.binOp .add 3 (.tmp 15) (.const (.int .i64 1)) 3), 3, none⟩,
      ⟨some 15, (.move (.tmp 28)), 3, none⟩])))))))
    (.seq (.reg [] [⟨some 4, (.assign (.const (.int .i64 0))), 26, none⟩])
    .ret)))))
theorem C25 {args : List AV} {r : AV} (hn : args.length ≤ 29) (h : vc Tryz.prog T [] A25 (Fin T [(.tmp 4)] r) ⟨envOf 0 args, []⟩) : CallP Tryz.prog 25 args r :=
  callP_of tok mixed Tryz.func25 (by kernel_rfl) (by kernel_rfl) (by kernel_rfl : Tryz.f25.ntmps = 29) (by kernel_rfl : Tryz.f25.body.bind (strip 29 (fun _ => [])) = some A25) hn h
def A40 : ACode :=
  (.seq (.reg [] [⟨some 2, (.alloc 57), 0, none⟩])
    (.seq (.reg [] [⟨some 3, (.alloc 57), 0, none⟩])
    (.seq (.seq (.reg [] [⟨some 6, (.move (.tmp 0)), 22, none⟩,
      ⟨some 7, (.call ⟨(.builtin .len), #[(.tmp 6)], #[22]⟩), 3, none⟩,
      ⟨some 8, (.move (.const (.int .i64 0))), 3, none⟩])
    (.block 0 (.loop (.seq (.reg [] [⟨some 9, (.binOp .lss 3 (.tmp 8) (.tmp 7) 3), 0, none⟩])
    (.seq (.cond (.tmp 9)
    .skip
    (.exit 0))
    (.seq (.block 1 (.seq (.reg [] [⟨some 10, (.move (.tmp 8)), 3, none⟩,
      ⟨some 11, (.indexAddr 22 (.tmp 6) (.tmp 8)), 0, none⟩,
      ⟨some 12, (.load 32 (.tmp 11)), 32, none⟩,
      ⟨some 4, (.assign (.tmp 10)), 3, none⟩,
      ⟨some 5, (.assign (.tmp 12)), 32, none⟩])
    (.seq (.reg [] [⟨some 13, (.fieldAddr 57 (.tmp 3) 0), 0, none⟩,
      ⟨some 14, (.load 32 (.tmp 13)), 32, none⟩,
      ⟨some 15, (.move (.tmp 5)), 32, none⟩,
      ⟨some 16, (.call ⟨(.builtin .append), #[(.tmp 14), (.tmp 15)], #[32, 32]⟩), 32, none⟩,
      ⟨some 17, (.fieldAddr 57 (.tmp 3) 0), 0, none⟩,
      ⟨none, (.store 32 (.tmp 17) (.tmp 16)), 0, none⟩])
    (.draw [] [⟨some 18, (.fieldAddr 57 (.tmp 3) 1), 0, none⟩,
      ⟨some 19, (.load 32 (.tmp 18)), 32, none⟩,
      ⟨some 20, (.move (.tmp 4)), 3, none⟩,
      ⟨some 21, (.buildSlice 32 1 #[(0, (.tmp 20))]), 32, none⟩,
      ⟨some 22, (.move (.tmp 5)), 32, none⟩,
      ⟨some 23, (.call ⟨(.builtin .len), #[(.tmp 22)], #[32]⟩), 3, none⟩,
      ⟨some 24, (.call ⟨(.value (.func 54)), #[(.tmp 21), (.tmp 23)], #[32, 3]⟩), 32, none⟩,
      ⟨some 25, (.call ⟨(.builtin .append), #[(.tmp 19), (.tmp 24)], #[32, 32]⟩), 32, none⟩,
      ⟨some 26, (.fieldAddr 57 (.tmp 3) 1), 0, none⟩,
      ⟨none, (.store 32 (.tmp 26) (.tmp 25)), 0, none⟩] [(0, 2), (1, 2), (0, 3), (1, 3), (0, 4), (1, 4), (2, 4), (3, 4), (0, 5), (1, 5), (2, 5), (3, 5), (0, 6), (1, 6)]))))
    (.reg [] [⟨some 27, (.binOp .add 3 (.tmp 8) (.const (.int .i64 1)) 3), 3, none⟩,
      ⟨some 8, (.move (.tmp 27)), 3, none⟩])))))))
    (.seq (.reg [] [⟨some 28, (.load 57 (.tmp 3)), 57, none⟩,
      ⟨none, (.store 57 (.tmp 2) (.tmp 28)), 0, none⟩])
    .ret))))
theorem C40 {args : List AV} {r : AV} (hn : args.length ≤ 29) (h : vc Tryz.prog T [] A40 (Fin T [(.cell 2 57)] r) ⟨envOf 0 args, []⟩) : CallP Tryz.prog 40 args r :=
  callP_of tok mixed Tryz.func40 (by kernel_rfl) (by kernel_rfl) (by kernel_rfl : Tryz.f40.ntmps = 29) (by kernel_rfl : Tryz.f40.body.bind (strip 29 (fun _ => [])) = some A40) hn h
def A42 : ACode :=
  (.seq (.reg [] [⟨some 2, (.box 57 (.tmp 0)), 0, none⟩,
      ⟨some 3, (.box 62 (.tmp 1)), 0, none⟩,
      ⟨some 4, (.assign (.const (.slice none 0 0))), 32, none⟩,
      ⟨some 5, (.assign (.const (.bool false))), 4, none⟩])
    (.seq (.reg [] [⟨some 9, (.fieldAddr 57 (.tmp 2) 0), 0, none⟩,
      ⟨some 10, (.load 32 (.tmp 9)), 32, none⟩,
      ⟨some 11, (.fieldAddr 62 (.tmp 3) 0), 0, none⟩,
      ⟨some 12, (.load 3 (.tmp 11)), 3, none⟩,
      ⟨some 13, (.call ⟨(.value (.func 49)), #[(.tmp 10), (.tmp 12)], #[32, 3]⟩), 3, none⟩,
      ⟨some 6, (.assign (.tmp 13)), 3, none⟩])
    (.seq (.seq (.draw [] [⟨some 14, (.move (.tmp 6)), 3, none⟩,
      ⟨some 15, (.binOp .lss 3 (.tmp 14) (.const (.int .i64 0)) 3), 4, none⟩,
      ⟨some 16, (.move (.tmp 15)), 4, none⟩,
      ⟨some 17, (.fieldAddr 62 (.tmp 3) 1), 0, some (16, false)⟩,
      ⟨some 18, (.load 3 (.tmp 17)), 3, some (16, false)⟩,
      ⟨some 19, (.fieldAddr 57 (.tmp 2) 1), 0, some (16, false)⟩,
      ⟨some 20, (.load 32 (.tmp 19)), 32, some (16, false)⟩,
      ⟨some 21, (.move (.tmp 6)), 3, some (16, false)⟩,
      ⟨some 22, (.indexAddr 32 (.tmp 20) (.tmp 21)), 0, some (16, false)⟩,
      ⟨some 23, (.load 3 (.tmp 22)), 3, some (16, false)⟩,
      ⟨some 24, (.binOp .lss 3 (.tmp 18) (.tmp 23) 3), 4, some (16, false)⟩,
      ⟨some 25, (.pick (.tmp 16) (.const (.bool true)) (.tmp 24)), 4, none⟩,
      ⟨some 26, (.move (.tmp 25)), 4, none⟩,
      ⟨some 27, (.fieldAddr 62 (.tmp 3) 1), 0, some (26, false)⟩,
      ⟨some 28, (.load 3 (.tmp 27)), 3, some (26, false)⟩,
      ⟨some 29, (.fieldAddr 57 (.tmp 2) 1), 0, some (26, false)⟩,
      ⟨some 30, (.load 32 (.tmp 29)), 32, some (26, false)⟩,
      ⟨some 31, (.fieldAddr 57 (.tmp 2) 1), 0, some (26, false)⟩,
      ⟨some 32, (.load 32 (.tmp 31)), 32, some (26, false)⟩,
      ⟨some 33, (.call ⟨(.builtin .len), #[(.tmp 32)], #[32]⟩), 3, some (26, false)⟩,
      ⟨some 34, (.binOp .sub 3 (.tmp 33) (.const (.int .i64 1)) 3), 3, some (26, false)⟩,
      ⟨some 35, (.indexAddr 32 (.tmp 30) (.tmp 34)), 0, some (26, false)⟩,
      ⟨some 36, (.load 3 (.tmp 35)), 3, some (26, false)⟩,
      ⟨some 37, (.binOp .gtr 3 (.tmp 28) (.tmp 36) 3), 4, some (26, false)⟩,
      ⟨some 38, (.pick (.tmp 26) (.const (.bool true)) (.tmp 37)), 4, none⟩] [(3, 5), (4, 5), (3, 6), (4, 6), (3, 7), (4, 7), (5, 7), (6, 7), (3, 8), (4, 8), (3, 9), (4, 9), (13, 15), (14, 15), (13, 16), (14, 16), (13, 17), (14, 17), (15, 17), (16, 17), (13, 18), (14, 18), (15, 18), (16, 18), (13, 19), (14, 19), (15, 19), (16, 19), (13, 20), (14, 20), (15, 20), (16, 20), (13, 21), (14, 21), (13, 22), (14, 22)])
    (.cond (.tmp 38)
    (.seq (.reg [] [⟨some 4, (.assign (.const (.slice none 0 0))), 32, none⟩,
      ⟨some 5, (.assign (.const (.bool false))), 4, none⟩])
    .ret)
    .skip))
    (.seq (.reg [] [⟨some 39, (.move (.tmp 6)), 3, none⟩,
      ⟨some 7, (.assign (.tmp 39)), 3, none⟩])
    (.seq (.block 0 (.loop (.seq (.seq (.draw [] [⟨some 40, (.move (.tmp 7)), 3, none⟩,
      ⟨some 41, (.fieldAddr 57 (.tmp 2) 1), 0, none⟩,
      ⟨some 42, (.load 32 (.tmp 41)), 32, none⟩,
      ⟨some 43, (.call ⟨(.builtin .len), #[(.tmp 42)], #[32]⟩), 3, none⟩,
      ⟨some 44, (.binOp .lss 3 (.tmp 40) (.tmp 43) 3), 4, none⟩,
      ⟨some 45, (.move (.tmp 44)), 4, none⟩,
      ⟨some 46, (.fieldAddr 57 (.tmp 2) 1), 0, some (45, true)⟩,
      ⟨some 47, (.load 32 (.tmp 46)), 32, some (45, true)⟩,
      ⟨some 48, (.move (.tmp 7)), 3, some (45, true)⟩,
      ⟨some 49, (.indexAddr 32 (.tmp 47) (.tmp 48)), 0, some (45, true)⟩,
      ⟨some 50, (.load 3 (.tmp 49)), 3, some (45, true)⟩,
      ⟨some 51, (.fieldAddr 62 (.tmp 3) 1), 0, some (45, true)⟩,
      ⟨some 52, (.load 3 (.tmp 51)), 3, some (45, true)⟩,
      ⟨some 53, (.binOp .leq 3 (.tmp 50) (.tmp 52) 3), 4, some (45, true)⟩,
      ⟨some 54, (.pick (.tmp 45) (.tmp 53) (.const (.bool false))), 4, none⟩] [(0, 1), (0, 2), (0, 3), (6, 8), (7, 8), (6, 11), (7, 11), (8, 11), (9, 11), (10, 11), (6, 12), (7, 12), (8, 12), (9, 12), (10, 12)])
    (.cond (.tmp 54)
    .skip
    (.exit 0)))
    (.block 1 (.reg [] [⟨some 55, (.move (.tmp 7)), 3, none⟩,
      ⟨some 56, (.binOp .add 3 (.tmp 55) (.const (.int .i64 1)) 3), 3, none⟩,
      ⟨some 7, (.assign (.tmp 56)), 3, none⟩])))))
    (.seq (.reg [] [⟨some 57, (.fieldAddr 57 (.tmp 2) 0), 0, none⟩,
      ⟨some 58, (.load 32 (.tmp 57)), 32, none⟩,
      ⟨some 59, (.move (.tmp 6)), 3, none⟩,
      ⟨some 60, (.move (.tmp 7)), 3, none⟩,
      ⟨some 61, (.move (.tmp 7)), 3, none⟩,
      ⟨some 62, (.slice 32 (.tmp 58) (some (.tmp 59)) (some (.tmp 60)) (some (.tmp 61))), 32, none⟩,
      ⟨some 63, (.call ⟨(.value (.func 19)), #[(.tmp 62)], #[32]⟩), 32, none⟩,
      ⟨some 8, (.assign (.tmp 63)), 32, none⟩])
    (.seq (.reg [] [⟨some 64, (.move (.tmp 8)), 32, none⟩,
      ⟨some 65, (.call ⟨(.value (.func 31)), #[(.tmp 64)], #[32]⟩), 0, none⟩])
    (.seq (.reg [] [⟨some 66, (.move (.tmp 8)), 32, none⟩,
      ⟨some 4, (.assign (.tmp 66)), 32, none⟩,
      ⟨some 5, (.assign (.const (.bool true))), 4, none⟩])
    .ret))))))))
theorem C42 {args : List AV} {r : AV} (hn : args.length ≤ 67) (h : vc Tryz.prog T [] A42 (Fin T [(.tmp 4), (.tmp 5)] r) ⟨envOf 0 args, []⟩) : CallP Tryz.prog 42 args r :=
  callP_of tok mixed Tryz.func42 (by kernel_rfl) (by kernel_rfl) (by kernel_rfl : Tryz.f42.ntmps = 67) (by kernel_rfl : Tryz.f42.body.bind (strip 67 (fun _ => [])) = some A42) hn h
def A56 : ACode :=
  (.seq (.reg [] [⟨some 2, (.box 74 (.tmp 0)), 0, none⟩,
      ⟨some 3, (.box 74 (.tmp 1)), 0, none⟩,
      ⟨some 4, (.assign (.const (.int .i64 0))), 3, none⟩])
    (.seq (.draw [] [⟨some 5, (.fieldAddr 74 (.tmp 2) 0), 0, none⟩,
      ⟨some 6, (.load 3 (.tmp 5)), 3, none⟩,
      ⟨some 7, (.fieldAddr 74 (.tmp 3) 0), 0, none⟩,
      ⟨some 8, (.load 3 (.tmp 7)), 3, none⟩,
      ⟨some 9, (.call ⟨(.value (.func 58)), #[(.tmp 6), (.tmp 8)], #[3, 3]⟩), 3, none⟩,
      ⟨some 10, (.fieldAddr 74 (.tmp 2) 1), 0, none⟩,
      ⟨some 11, (.load 3 (.tmp 10)), 3, none⟩,
      ⟨some 12, (.fieldAddr 74 (.tmp 3) 1), 0, none⟩,
      ⟨some 13, (.load 3 (.tmp 12)), 3, none⟩,
      ⟨some 14, (.call ⟨(.value (.func 58)), #[(.tmp 11), (.tmp 13)], #[3, 3]⟩), 3, none⟩,
      ⟨some 15, (.buildSlice 32 2 #[(0, (.tmp 9)), (1, (.tmp 14))]), 32, none⟩,
      ⟨some 16, (.call ⟨(.value (.func 73)), #[(.tmp 15)], #[32]⟩), 3, none⟩,
      ⟨some 4, (.assign (.tmp 16)), 3, none⟩] [(0, 2), (1, 2), (0, 3), (1, 3), (0, 5), (1, 5), (2, 5), (3, 5), (4, 5), (0, 6), (1, 6), (2, 6), (3, 6), (4, 6), (0, 7), (1, 7), (2, 7), (3, 7), (4, 7), (5, 7), (6, 7), (0, 8), (1, 8), (2, 8), (3, 8), (4, 8), (5, 8), (6, 8)])
    .ret))
theorem C56 {args : List AV} {r : AV} (hn : args.length ≤ 17) (h : vc Tryz.prog T [] A56 (Fin T [(.tmp 4)] r) ⟨envOf 0 args, []⟩) : CallP Tryz.prog 56 args r :=
  callP_of tok mixed Tryz.func56 (by kernel_rfl) (by kernel_rfl) (by kernel_rfl : Tryz.f56.ntmps = 17) (by kernel_rfl : Tryz.f56.body.bind (strip 17 (fun _ => [])) = some A56) hn h
def A41 : ACode :=
  (.seq (.reg [] [⟨some 2, (.assign (.const (.slice none 0 0))), 59, none⟩])
    (.seq (.reg [] [⟨some 11, (.move (.tmp 0)), 22, none⟩,
      ⟨some 12, (.call ⟨(.value (.func 40)), #[(.tmp 11)], #[22]⟩), 57, none⟩,
      ⟨some 3, (.alloc 57), 0, none⟩,
      ⟨none, (.store 57 (.tmp 3) (.tmp 12)), 0, none⟩])
    (.seq (.reg [] [⟨some 4, (.assign (.const (.slice none 0 0))), 73, none⟩])
    (.seq (.seq (.reg [] [⟨some 13, (.fieldAddr 57 (.tmp 3) 0), 0, none⟩,
      ⟨some 14, (.load 32 (.tmp 13)), 32, none⟩,
      ⟨some 15, (.call ⟨(.builtin .len), #[(.tmp 14)], #[32]⟩), 3, none⟩,
      ⟨some 16, (.move (.const (.int .i64 0))), 3, none⟩])
    (.block 0 (.loop (.seq (.reg [] [⟨some 17, (.binOp .lss 3 (.tmp 16) (.tmp 15) 3), 0, none⟩])
    (.seq (.cond (.tmp 17)
    .skip
    (.exit 0))
    (.seq (.block 1 (.seq (.reg [] [⟨some 18, (.move (.tmp 16)), 3, none⟩,
      ⟨some 19, (.indexAddr 32 (.tmp 14) (.tmp 16)), 0, none⟩,
      ⟨some 20, (.load 3 (.tmp 19)), 3, none⟩,
      ⟨some 5, (.assign (.tmp 18)), 3, none⟩,
      ⟨some 6, (.assign (.tmp 20)), 3, none⟩])
    (.seq (.reg [] [⟨some 21, (.fieldAddr 57 (.tmp 3) 1), 0, none⟩,
      ⟨some 22, (.load 32 (.tmp 21)), 32, none⟩,
      ⟨some 23, (.move (.tmp 5)), 3, none⟩,
      ⟨some 24, (.indexAddr 32 (.tmp 22) (.tmp 23)), 0, none⟩,
      ⟨some 25, (.load 3 (.tmp 24)), 3, none⟩,
      ⟨some 7, (.assign (.tmp 25)), 3, none⟩])
    (.block 2 (.loop (.seq (.seq (.reg [] [⟨some 26, (.move (.tmp 7)), 3, none⟩,
      ⟨some 27, (.move (.tmp 0)), 22, none⟩,
      ⟨some 28, (.call ⟨(.builtin .len), #[(.tmp 27)], #[22]⟩), 3, none⟩,
      ⟨some 29, (.binOp .lss 3 (.tmp 26) (.tmp 28) 3), 4, none⟩])
    (.cond (.tmp 29)
    .skip
    (.exit 2)))
    (.seq (.block 3 (.reg [] [⟨some 32, (.move (.tmp 4)), 73, none⟩,
      ⟨some 33, (.move (.tmp 6)), 3, none⟩,
      ⟨some 34, (.move (.tmp 7)), 3, none⟩,
      ⟨some 35, (.build 74 #[(0, (.tmp 33)), (1, (.tmp 34))]), 74, none⟩,
      ⟨some 36, (.buildSlice 73 1 #[(0, (.tmp 35))]), 73, none⟩,
      ⟨some 37, (.call ⟨(.builtin .append), #[(.tmp 32), (.tmp 36)], #[73, 73]⟩), 73, none⟩,
      ⟨some 4, (.assign (.tmp 37)), 73, none⟩]))
    (.reg [] [⟨some 30, (.move (.tmp 7)), 3, none⟩,
      ⟨some 31, (.binOp .add 3 (.tmp 30) (.const (.int .i64 1)) 3), 3, none⟩,
      ⟨some 7, (.assign (.tmp 31)), 3, none⟩]))))))))
    (.reg [] [⟨some 38, (.binOp .add 3 (.tmp 16) (.const (.int .i64 1)) 3), 3, none⟩,
      ⟨some 16, (.move (.tmp 38)), 3, none⟩])))))))
    (.seq (.reg [] [⟨some 39, (.move (.tmp 4)), 73, none⟩,
      ⟨some 40, (.call ⟨(.value (.func 55)), #[(.tmp 39), (.func 56)], #[73, 76]⟩), 0, none⟩])
    (.seq (.reg [] [⟨some 8, (.assign (.const (.slice none 0 0))), 59, none⟩])
    (.seq (.seq (.reg [] [⟨some 41, (.move (.tmp 4)), 73, none⟩,
      ⟨some 42, (.call ⟨(.builtin .len), #[(.tmp 41)], #[73]⟩), 3, none⟩,
      ⟨some 43, (.move (.const (.int .i64 0))), 3, none⟩])
    (.block 4 (.loop (.seq (.reg [] [⟨some 44, (.binOp .lss 3 (.tmp 43) (.tmp 42) 3), 0, none⟩])
    (.seq (.cond (.tmp 44)
    .skip
    (.exit 4))
    (.seq (.block 5 (.seq (.reg [] [⟨some 45, (.indexAddr 73 (.tmp 41) (.tmp 43)), 0, none⟩,
      ⟨some 46, (.load 74 (.tmp 45)), 74, none⟩,
      ⟨some 10, (.alloc 74), 0, none⟩,
      ⟨none, (.store 74 (.tmp 10) (.tmp 46)), 0, none⟩])
    (.reg [] [⟨some 47, (.move (.tmp 8)), 59, none⟩,
      ⟨some 48, (.load 74 (.tmp 10)), 74, none⟩,
      ⟨some 49, (.buildSlice 59 1 #[(0, (.tmp 48))]), 59, none⟩,
      ⟨some 50, (.call ⟨(.builtin .append), #[(.tmp 47), (.tmp 49)], #[59, 59]⟩), 59, none⟩,
      ⟨some 8, (.assign (.tmp 50)), 59, none⟩])))
    (.reg [] [⟨some 51, (.binOp .add 3 (.tmp 43) (.const (.int .i64 1)) 3), 3, none⟩,
      ⟨some 43, (.move (.tmp 51)), 3, none⟩])))))))
    (.seq (.reg [] [⟨some 52, (.move (.tmp 8)), 59, none⟩,
      ⟨some 2, (.assign (.tmp 52)), 59, none⟩])
    .ret))))))))
theorem CO41 {args : List AV} {sz : Nat} {els : List AV} (hn : args.length ≤ 53) (h : vc Tryz.prog T [] A41 (FinO [(.tmp 2)] sz els) ⟨envOf 0 args, []⟩) : CallO Tryz.prog 41 args sz els :=
  callO_of tok mixed Tryz.func41 (by kernel_rfl) (by kernel_rfl) (by kernel_rfl : Tryz.f41.ntmps = 53) (by kernel_rfl : Tryz.f41.body.bind (strip 53 (fun _ => [])) = some A41) hn h
def A24 : ACode :=
  (.seq (.reg [] [⟨some 2, (.assign (.const (.slice none 0 0))), 22, none⟩])
    (.seq (.reg [] [⟨some 9, (.move (.tmp 0)), 22, none⟩,
      ⟨some 10, (.call ⟨(.value (.func 40)), #[(.tmp 9)], #[22]⟩), 57, none⟩,
      ⟨some 3, (.alloc 57), 0, none⟩,
      ⟨none, (.store 57 (.tmp 3) (.tmp 10)), 0, none⟩])
    (.seq (.reg [] [⟨some 4, (.assign (.const (.slice none 0 0))), 22, none⟩])
    (.seq (.seq (.reg [] [⟨some 11, (.move (.tmp 0)), 22, none⟩,
      ⟨some 12, (.call ⟨(.value (.func 41)), #[(.tmp 11)], #[22]⟩), 59, none⟩,
      ⟨some 13, (.call ⟨(.builtin .len), #[(.tmp 12)], #[59]⟩), 3, none⟩,
      ⟨some 14, (.move (.const (.int .i64 0))), 3, none⟩])
    (.block 0 (.loop (.seq (.reg [] [⟨some 15, (.binOp .lss 3 (.tmp 14) (.tmp 13) 3), 0, none⟩])
    (.seq (.cond (.tmp 15)
    .skip
    (.exit 0))
    (.seq (.block 1 (.seq (.reg [] [⟨some 16, (.indexAddr 59 (.tmp 12) (.tmp 14)), 0, none⟩,
      ⟨some 17, (.load 62 (.tmp 16)), 62, none⟩,
      ⟨some 6, (.alloc 62), 0, none⟩,
      ⟨none, (.store 62 (.tmp 6) (.tmp 17)), 0, none⟩])
    (.seq (.reg [] [⟨some 19, (.load 57 (.tmp 3)), 57, none⟩,
      ⟨some 20, (.load 62 (.tmp 6)), 62, none⟩,
      ⟨some 21, (.call ⟨(.value (.func 42)), #[(.tmp 19), (.tmp 20)], #[57, 62]⟩), 45, none⟩,
      ⟨some 18, (.move (.tmp 21)), 45, none⟩,
      ⟨some 22, (.extract (.tmp 18) 0), 32, none⟩,
      ⟨some 23, (.extract (.tmp 18) 1), 4, none⟩,
      ⟨some 7, (.assign (.tmp 22)), 32, none⟩,
      ⟨some 8, (.assign (.tmp 23)), 4, none⟩])
    (.reg [] [⟨some 24, (.move (.tmp 4)), 22, none⟩,
      ⟨some 25, (.move (.tmp 7)), 32, none⟩,
      ⟨some 26, (.buildSlice 22 1 #[(0, (.tmp 25))]), 22, none⟩,
      ⟨some 27, (.call ⟨(.builtin .append), #[(.tmp 24), (.tmp 26)], #[22, 22]⟩), 22, none⟩,
      ⟨some 4, (.assign (.tmp 27)), 22, none⟩]))))
    (.reg [] [⟨some 28, (.binOp .add 3 (.tmp 14) (.const (.int .i64 1)) 3), 3, none⟩,
      ⟨some 14, (.move (.tmp 28)), 3, none⟩])))))))
    (.seq (.reg [] [⟨some 29, (.move (.tmp 4)), 22, none⟩,
      ⟨some 30, (.call ⟨(.value (.func 43)), #[(.tmp 29), (.func 44)], #[22, 65]⟩), 0, none⟩])
    (.seq (.reg [] [⟨some 31, (.move (.tmp 4)), 22, none⟩,
      ⟨some 32, (.call ⟨(.value (.func 45)), #[(.tmp 31), (.func 46)], #[22, 41]⟩), 22, none⟩,
      ⟨some 2, (.assign (.tmp 32)), 22, none⟩])
    .ret))))))
theorem C24 {args : List AV} {r : AV} (hn : args.length ≤ 33) (h : vc Tryz.prog T [] A24 (Fin T [(.tmp 2)] r) ⟨envOf 0 args, []⟩) : CallP Tryz.prog 24 args r :=
  callP_of tok mixed Tryz.func24 (by kernel_rfl) (by kernel_rfl) (by kernel_rfl : Tryz.f24.ntmps = 33) (by kernel_rfl : Tryz.f24.body.bind (strip 33 (fun _ => [])) = some A24) hn h
def A11 : ACode :=
  (.seq (.reg [] [⟨some 2, (.assign (.const (.slice none 0 0))), 22, none⟩,
      ⟨some 3, (.assign (.const (.int .i64 0))), 26, none⟩])
    (.seq (.seq (.reg [] [⟨some 5, (.move (.tmp 0)), 22, none⟩,
      ⟨some 6, (.call ⟨(.value (.func 15)), #[(.tmp 5)], #[22]⟩), 26, none⟩,
      ⟨some 4, (.assign (.tmp 6)), 26, none⟩])
    (.seq (.reg [] [⟨some 7, (.move (.tmp 4)), 26, none⟩,
      ⟨some 8, (.binOp .neq 26 (.tmp 7) (.const (.int .i64 0)) 26), 4, none⟩])
    (.cond (.tmp 8)
    (.seq (.reg [] [⟨some 9, (.move (.tmp 4)), 26, none⟩,
      ⟨some 2, (.assign (.const (.slice none 0 0))), 22, none⟩,
      ⟨some 3, (.assign (.tmp 9)), 26, none⟩])
    .ret)
    .skip)))
    (.seq (.reg [] [⟨some 10, (.move (.tmp 0)), 22, none⟩,
      ⟨some 11, (.call ⟨(.value (.func 24)), #[(.tmp 10)], #[22]⟩), 22, none⟩,
      ⟨some 2, (.assign (.tmp 11)), 22, none⟩,
      ⟨some 3, (.assign (.const (.int .i64 0))), 26, none⟩])
    .ret)))
theorem C11 {args : List AV} {r : AV} (hn : args.length ≤ 12) (h : vc Tryz.prog T [] A11 (Fin T [(.tmp 2), (.tmp 3)] r) ⟨envOf 0 args, []⟩) : CallP Tryz.prog 11 args r :=
  callP_of tok mixed Tryz.func11 (by kernel_rfl) (by kernel_rfl) (by kernel_rfl : Tryz.f11.ntmps = 12) (by kernel_rfl : Tryz.f11.body.bind (strip 12 (fun _ => [])) = some A11) hn h
def A7 : ACode :=
  (.seq (.reg [] [⟨some 6, (.assign (.const (.slice none 0 0))), 22, none⟩,
      ⟨some 7, (.assign (.const (.int .i64 0))), 26, none⟩])
    (.seq (.seq (.reg [] [⟨some 10, (.move (.tmp 0)), 22, none⟩,
      ⟨some 11, (.call ⟨(.value (.func 15)), #[(.tmp 10)], #[22]⟩), 26, none⟩,
      ⟨some 8, (.assign (.tmp 11)), 26, none⟩])
    (.seq (.reg [] [⟨some 12, (.move (.tmp 8)), 26, none⟩,
      ⟨some 13, (.binOp .neq 26 (.tmp 12) (.const (.int .i64 0)) 26), 4, none⟩])
    (.cond (.tmp 13)
    (.seq (.reg [] [⟨some 14, (.move (.tmp 8)), 26, none⟩,
      ⟨some 6, (.assign (.const (.slice none 0 0))), 22, none⟩,
      ⟨some 7, (.assign (.tmp 14)), 26, none⟩])
    .ret)
    .skip)))
    (.seq (.seq (.reg [] [⟨some 15, (.move (.tmp 1)), 3, none⟩,
      ⟨some 16, (.move (.tmp 0)), 22, none⟩,
      ⟨some 17, (.call ⟨(.builtin .len), #[(.tmp 16)], #[22]⟩), 3, none⟩,
      ⟨some 18, (.binOp .sub 3 (.tmp 17) (.const (.int .i64 1)) 3), 3, none⟩,
      ⟨some 19, (.call ⟨(.value (.func 16)), #[(.tmp 15), (.const (.int .i64 0)), (.tmp 18)], #[3, 3, 3]⟩), 4, none⟩,
      ⟨some 20, (.unOp .not 4 (.tmp 19)), 4, none⟩])
    (.cond (.tmp 20)
    (.seq (.reg [] [⟨some 6, (.assign (.const (.slice none 0 0))), 22, none⟩,
      ⟨some 7, (.assign (.const (.int .i64 4))), 26, none⟩])
    .ret)
    .skip))
    (.seq (.seq (.reg [] [⟨some 21, (.move (.tmp 2)), 3, none⟩,
      ⟨some 22, (.move (.tmp 0)), 22, none⟩,
      ⟨some 23, (.move (.tmp 1)), 3, none⟩,
      ⟨some 24, (.indexAddr 22 (.tmp 22) (.tmp 23)), 0, none⟩,
      ⟨some 25, (.load 32 (.tmp 24)), 32, none⟩,
      ⟨some 26, (.call ⟨(.builtin .len), #[(.tmp 25)], #[32]⟩), 3, none⟩,
      ⟨some 27, (.binOp .sub 3 (.tmp 26) (.const (.int .i64 1)) 3), 3, none⟩,
      ⟨some 28, (.call ⟨(.value (.func 16)), #[(.tmp 21), (.const (.int .i64 1)), (.tmp 27)], #[3, 3, 3]⟩), 4, none⟩,
      ⟨some 29, (.unOp .not 4 (.tmp 28)), 4, none⟩])
    (.cond (.tmp 29)
    (.seq (.reg [] [⟨some 6, (.assign (.const (.slice none 0 0))), 22, none⟩,
      ⟨some 7, (.assign (.const (.int .i64 1))), 26, none⟩])
    .ret)
    .skip))
    (.seq (.seq (.reg [] [⟨some 30, (.move (.tmp 0)), 22, none⟩,
      ⟨some 31, (.call ⟨(.builtin .len), #[(.tmp 30)], #[22]⟩), 3, none⟩,
      ⟨some 32, (.binOp .eql 3 (.tmp 31) (.const (.int .i64 6)) 3), 4, none⟩])
    (.cond (.tmp 32)
    (.seq (.reg [] [⟨some 6, (.assign (.const (.slice none 0 0))), 22, none⟩,
      ⟨some 7, (.assign (.const (.int .i64 3))), 26, none⟩])
    .ret)
    .skip))
    (.seq (.reg [] [⟨some 33, (.move (.tmp 0)), 22, none⟩,
      ⟨some 34, (.call ⟨(.value (.func 17)), #[(.tmp 33)], #[22]⟩), 22, none⟩,
      ⟨some 9, (.assign (.tmp 34)), 22, none⟩])
    (.seq (.draw [] [⟨some 35, (.move (.tmp 9)), 22, none⟩,
      ⟨some 36, (.move (.tmp 1)), 3, none⟩,
      ⟨some 37, (.move (.tmp 1)), 3, none⟩,
      ⟨some 38, (.binOp .add 3 (.tmp 37) (.const (.int .i64 1)) 3), 3, none⟩,
      ⟨some 39, (.move (.tmp 0)), 22, none⟩,
      ⟨some 40, (.move (.tmp 1)), 3, none⟩,
      ⟨some 41, (.indexAddr 22 (.tmp 39) (.tmp 40)), 0, none⟩,
      ⟨some 42, (.load 32 (.tmp 41)), 32, none⟩,
      ⟨some 43, (.move (.tmp 2)), 3, none⟩,
      ⟨some 44, (.move (.tmp 2)), 3, none⟩,
      ⟨some 45, (.slice 32 (.tmp 42) none (some (.tmp 43)) (some (.tmp 44))), 32, none⟩,
      ⟨some 46, (.call ⟨(.value (.func 19)), #[(.tmp 45)], #[32]⟩), 32, none⟩,
      ⟨some 47, (.move (.tmp 0)), 22, none⟩,
      ⟨some 48, (.move (.tmp 1)), 3, none⟩,
      ⟨some 49, (.indexAddr 22 (.tmp 47) (.tmp 48)), 0, none⟩,
      ⟨some 50, (.load 32 (.tmp 49)), 32, none⟩,
      ⟨some 51, (.move (.tmp 2)), 3, none⟩,
      ⟨some 52, (.slice 32 (.tmp 50) (some (.tmp 51)) none none), 32, none⟩,
      ⟨some 53, (.call ⟨(.value (.func 19)), #[(.tmp 52)], #[32]⟩), 32, none⟩,
      ⟨some 54, (.buildSlice 22 2 #[(0, (.tmp 46)), (1, (.tmp 53))]), 22, none⟩,
      ⟨some 55, (.call ⟨(.value (.func 18)), #[(.tmp 35), (.tmp 36), (.tmp 38), (.tmp 54)], #[22, 3, 3, 22]⟩), 22, none⟩,
      ⟨some 6, (.assign (.tmp 55)), 22, none⟩,
      ⟨some 7, (.assign (.const (.int .i64 0))), 26, none⟩] [(0, 1), (0, 2), (1, 2), (0, 3), (1, 3), (0, 4), (1, 4), (2, 4), (3, 4), (0, 5), (1, 5), (2, 5), (3, 5), (4, 5), (0, 6), (1, 6), (2, 6), (3, 6), (0, 7), (1, 7), (2, 7), (3, 7), (0, 8), (1, 8), (2, 8), (3, 8), (4, 8), (5, 8), (6, 8), (7, 8), (0, 9), (1, 9), (2, 9), (3, 9), (4, 9), (5, 9), (6, 9), (7, 9), (8, 9), (0, 10), (1, 10), (2, 10), (3, 10), (0, 11), (1, 11), (2, 11), (3, 11), (0, 12), (1, 12), (2, 12), (3, 12), (4, 12), (5, 12), (6, 12), (7, 12), (8, 12), (9, 12), (10, 12), (11, 12), (0, 13), (1, 13), (2, 13), (3, 13), (4, 13), (5, 13), (6, 13), (7, 13), (8, 13), (9, 13), (10, 13), (11, 13), (12, 13), (0, 14), (1, 14), (2, 14), (3, 14), (4, 14), (5, 14), (6, 14), (7, 14), (8, 14), (9, 14), (10, 14), (11, 14), (0, 15), (1, 15), (2, 15), (3, 15), (4, 15), (5, 15), (6, 15), (7, 15), (8, 15), (9, 15), (10, 15), (11, 15), (0, 16), (1, 16), (2, 16), (3, 16), (4, 16), (5, 16), (6, 16), (7, 16), (8, 16), (9, 16), (10, 16), (11, 16), (12, 16), (13, 16), (14, 16), (15, 16), (0, 17), (1, 17), (2, 17), (3, 17), (4, 17), (5, 17), (6, 17), (7, 17), (8, 17), (9, 17), (10, 17), (11, 17), (0, 18), (1, 18), (2, 18), (3, 18), (0, 19), (1, 19), (2, 19), (3, 19)])
    .ret)))))))
theorem C7 {args : List AV} {r : AV} (hn : args.length ≤ 56) (h : vc Tryz.prog T [] A7 (Fin T [(.tmp 6), (.tmp 7)] r) ⟨envOf 0 args, []⟩) : CallP Tryz.prog 7 args r :=
  callP_of tok mixed Tryz.func7 (by kernel_rfl) (by kernel_rfl) (by kernel_rfl : Tryz.f7.ntmps = 56) (by kernel_rfl : Tryz.f7.body.bind (strip 56 (fun _ => [])) = some A7) hn h
def A17 : ACode :=
  (.seq (.reg [] [⟨some 2, (.assign (.const (.slice none 0 0))), 22, none⟩])
    (.seq (.reg [] [⟨some 3, (.assign (.const (.slice none 0 0))), 22, none⟩])
    (.seq (.seq (.reg [] [⟨some 6, (.move (.tmp 0)), 22, none⟩,
      ⟨some 7, (.call ⟨(.builtin .len), #[(.tmp 6)], #[22]⟩), 3, none⟩,
      ⟨some 8, (.move (.const (.int .i64 0))), 3, none⟩])
    (.block 0 (.loop (.seq (.reg [] [⟨some 9, (.binOp .lss 3 (.tmp 8) (.tmp 7) 3), 0, none⟩])
    (.seq (.cond (.tmp 9)
    .skip
    (.exit 0))
    (.seq (.block 1 (.seq (.reg [] [⟨some 10, (.indexAddr 22 (.tmp 6) (.tmp 8)), 0, none⟩,
      ⟨some 11, (.load 32 (.tmp 10)), 32, none⟩,
      ⟨some 5, (.assign (.tmp 11)), 32, none⟩])
    (.reg [] [⟨some 12, (.move (.tmp 3)), 22, none⟩,
      ⟨some 13, (.move (.tmp 5)), 32, none⟩,
      ⟨some 14, (.call ⟨(.value (.func 19)), #[(.tmp 13)], #[32]⟩), 32, none⟩,
      ⟨some 15, (.buildSlice 22 1 #[(0, (.tmp 14))]), 22, none⟩,
      ⟨some 16, (.call ⟨(.builtin .append), #[(.tmp 12), (.tmp 15)], #[22, 22]⟩), 22, none⟩,
      ⟨some 3, (.assign (.tmp 16)), 22, none⟩])))
    (.reg [] [⟨some 17, (.binOp .add 3 (.tmp 8) (.const (.int .i64 1)) 3), 3, none⟩,
      ⟨some 8, (.move (.tmp 17)), 3, none⟩])))))))
    (.seq (.reg [] [⟨some 18, (.move (.tmp 3)), 22, none⟩,
      ⟨some 2, (.assign (.tmp 18)), 22, none⟩])
    .ret))))
theorem CO17 {args : List AV} {sz : Nat} {els : List AV} (hn : args.length ≤ 19) (h : vc Tryz.prog T [] A17 (FinO [(.tmp 2)] sz els) ⟨envOf 0 args, []⟩) : CallO Tryz.prog 17 args sz els :=
  callO_of tok mixed Tryz.func17 (by kernel_rfl) (by kernel_rfl) (by kernel_rfl : Tryz.f17.ntmps = 19) (by kernel_rfl : Tryz.f17.body.bind (strip 19 (fun _ => [])) = some A17) hn h
def A10 : ACode :=
  (.seq (.reg [] [⟨some 4, (.assign (.const (.slice none 0 0))), 22, none⟩,
      ⟨some 5, (.assign (.const (.int .i64 0))), 26, none⟩])
    (.seq (.seq (.reg [] [⟨some 8, (.move (.tmp 0)), 22, none⟩,
      ⟨some 9, (.call ⟨(.value (.func 15)), #[(.tmp 8)], #[22]⟩), 26, none⟩,
      ⟨some 6, (.assign (.tmp 9)), 26, none⟩])
    (.seq (.reg [] [⟨some 10, (.move (.tmp 6)), 26, none⟩,
      ⟨some 11, (.binOp .neq 26 (.tmp 10) (.const (.int .i64 0)) 26), 4, none⟩])
    (.cond (.tmp 11)
    (.seq (.reg [] [⟨some 12, (.move (.tmp 6)), 26, none⟩,
      ⟨some 4, (.assign (.const (.slice none 0 0))), 22, none⟩,
      ⟨some 5, (.assign (.tmp 12)), 26, none⟩])
    .ret)
    .skip)))
    (.seq (.seq (.reg [] [⟨some 13, (.move (.tmp 1)), 3, none⟩,
      ⟨some 14, (.move (.tmp 0)), 22, none⟩,
      ⟨some 15, (.call ⟨(.builtin .len), #[(.tmp 14)], #[22]⟩), 3, none⟩,
      ⟨some 16, (.binOp .sub 3 (.tmp 15) (.const (.int .i64 2)) 3), 3, none⟩,
      ⟨some 17, (.call ⟨(.value (.func 16)), #[(.tmp 13), (.const (.int .i64 0)), (.tmp 16)], #[3, 3, 3]⟩), 4, none⟩,
      ⟨some 18, (.unOp .not 4 (.tmp 17)), 4, none⟩])
    (.cond (.tmp 18)
    (.seq (.reg [] [⟨some 4, (.assign (.const (.slice none 0 0))), 22, none⟩,
      ⟨some 5, (.assign (.const (.int .i64 4))), 26, none⟩])
    .ret)
    .skip))
    (.seq (.reg [] [⟨some 19, (.move (.tmp 0)), 22, none⟩,
      ⟨some 20, (.call ⟨(.value (.func 17)), #[(.tmp 19)], #[22]⟩), 22, none⟩,
      ⟨some 7, (.assign (.tmp 20)), 22, none⟩])
    (.seq (.draw [] [⟨some 21, (.move (.tmp 7)), 22, none⟩,
      ⟨some 22, (.move (.tmp 1)), 3, none⟩,
      ⟨some 23, (.move (.tmp 1)), 3, none⟩,
      ⟨some 24, (.binOp .add 3 (.tmp 23) (.const (.int .i64 2)) 3), 3, none⟩,
      ⟨some 25, (.move (.tmp 0)), 22, none⟩,
      ⟨some 26, (.move (.tmp 1)), 3, none⟩,
      ⟨some 27, (.indexAddr 22 (.tmp 25) (.tmp 26)), 0, none⟩,
      ⟨some 28, (.load 32 (.tmp 27)), 32, none⟩,
      ⟨some 29, (.move (.tmp 0)), 22, none⟩,
      ⟨some 30, (.move (.tmp 1)), 3, none⟩,
      ⟨some 31, (.binOp .add 3 (.tmp 30) (.const (.int .i64 1)) 3), 3, none⟩,
      ⟨some 32, (.indexAddr 22 (.tmp 29) (.tmp 31)), 0, none⟩,
      ⟨some 33, (.load 32 (.tmp 32)), 32, none⟩,
      ⟨some 34, (.buildSlice 22 2 #[(0, (.tmp 28)), (1, (.tmp 33))]), 22, none⟩,
      ⟨some 35, (.call ⟨(.value (.func 23)), #[(.tmp 34)], #[22]⟩), 32, none⟩,
      ⟨some 36, (.buildSlice 22 1 #[(0, (.tmp 35))]), 22, none⟩,
      ⟨some 37, (.call ⟨(.value (.func 18)), #[(.tmp 21), (.tmp 22), (.tmp 24), (.tmp 36)], #[22, 3, 3, 22]⟩), 22, none⟩,
      ⟨some 4, (.assign (.tmp 37)), 22, none⟩,
      ⟨some 5, (.assign (.const (.int .i64 0))), 26, none⟩] [(0, 1), (0, 2), (1, 2), (0, 3), (1, 3), (0, 4), (1, 4), (2, 4), (3, 4), (0, 5), (1, 5), (2, 5), (3, 5), (4, 5), (0, 6), (1, 6), (2, 6), (3, 6), (0, 7), (1, 7), (2, 7), (3, 7), (0, 8), (1, 8), (2, 8), (3, 8), (4, 8), (5, 8), (6, 8), (7, 8), (0, 9), (1, 9), (2, 9), (3, 9), (4, 9), (5, 9), (6, 9), (7, 9), (8, 9), (0, 10), (1, 10), (2, 10), (3, 10), (4, 10), (5, 10), (6, 10), (7, 10), (8, 10), (0, 11), (1, 11), (2, 11), (3, 11), (4, 11), (5, 11), (6, 11), (7, 11), (0, 12), (1, 12), (2, 12), (3, 12), (4, 12), (5, 12), (6, 12), (7, 12), (0, 13), (1, 13), (2, 13), (3, 13), (0, 14), (1, 14), (2, 14), (3, 14), (0, 15), (1, 15), (2, 15), (3, 15)])
    .ret)))))
theorem C10 {args : List AV} {r : AV} (hn : args.length ≤ 38) (h : vc Tryz.prog T [] A10 (Fin T [(.tmp 4), (.tmp 5)] r) ⟨envOf 0 args, []⟩) : CallP Tryz.prog 10 args r :=
  callP_of tok mixed Tryz.func10 (by kernel_rfl) (by kernel_rfl) (by kernel_rfl : Tryz.f10.ntmps = 38) (by kernel_rfl : Tryz.f10.body.bind (strip 38 (fun _ => [])) = some A10) hn h
def A28 : ACode :=
  (.seq (.reg [] [⟨some 4, (.assign (.const (.slice none 0 0))), 32, none⟩,
      ⟨some 5, (.assign (.const (.bool false))), 4, none⟩])
    (.seq (.reg [] [⟨some 6, (.assign (.const (.slice none 0 0))), 32, none⟩])
    (.seq (.seq (.reg [] [⟨some 14, (.move (.tmp 0)), 22, none⟩,
      ⟨some 15, (.call ⟨(.builtin .len), #[(.tmp 14)], #[22]⟩), 3, none⟩,
      ⟨some 16, (.move (.const (.int .i64 0))), 3, none⟩])
    (.block 0 (.loop (.seq (.reg [] [⟨some 17, (.binOp .lss 3 (.tmp 16) (.tmp 15) 3), 0, none⟩])
    (.seq (.cond (.tmp 17)
    .skip
    (.exit 0))
    (.seq (.block 1 (.seq (.reg [] [⟨some 18, (.indexAddr 22 (.tmp 14) (.tmp 16)), 0, none⟩,
      ⟨some 19, (.load 32 (.tmp 18)), 32, none⟩,
      ⟨some 8, (.assign (.tmp 19)), 32, none⟩])
    (.seq (.reg [] [⟨some 20, (.move (.tmp 1)), 32, none⟩,
      ⟨some 21, (.call ⟨(.builtin .len), #[(.tmp 20)], #[32]⟩), 3, none⟩,
      ⟨some 9, (.assign (.tmp 21)), 3, none⟩,
      ⟨some 10, (.assign (.const (.int .i64 (-1)))), 3, none⟩])
    (.seq (.seq (.reg [] [⟨some 22, (.move (.tmp 8)), 32, none⟩,
      ⟨some 23, (.call ⟨(.builtin .len), #[(.tmp 22)], #[32]⟩), 3, none⟩,
      ⟨some 24, (.move (.const (.int .i64 0))), 3, none⟩])
    (.block 2 (.loop (.seq (.reg [] [⟨some 25, (.binOp .lss 3 (.tmp 24) (.tmp 23) 3), 0, none⟩])
    (.seq (.cond (.tmp 25)
    .skip
    (.exit 2))
    (.seq (.block 3 (.seq (.reg [] [⟨some 26, (.indexAddr 32 (.tmp 22) (.tmp 24)), 0, none⟩,
      ⟨some 27, (.load 3 (.tmp 26)), 3, none⟩,
      ⟨some 12, (.assign (.tmp 27)), 3, none⟩])
    (.seq (.reg [] [⟨some 28, (.move (.tmp 1)), 32, none⟩,
      ⟨some 29, (.move (.tmp 12)), 3, none⟩,
      ⟨some 30, (.call ⟨(.value (.func 49)), #[(.tmp 28), (.tmp 29)], #[32, 3]⟩), 3, none⟩,
      ⟨some 13, (.assign (.tmp 30)), 3, none⟩])
    (.reg [] [⟨some 31, (.move (.tmp 9)), 3, none⟩,
      ⟨some 32, (.move (.tmp 13)), 3, none⟩,
      ⟨some 33, (.call ⟨(.builtin .min), #[(.tmp 31), (.tmp 32)], #[3, 3]⟩), 3, none⟩,
      ⟨some 34, (.move (.tmp 10)), 3, none⟩,
      ⟨some 35, (.move (.tmp 13)), 3, none⟩,
      ⟨some 36, (.call ⟨(.builtin .max), #[(.tmp 34), (.tmp 35)], #[3, 3]⟩), 3, none⟩,
      ⟨some 9, (.assign (.tmp 33)), 3, none⟩,
      ⟨some 10, (.assign (.tmp 36)), 3, none⟩]))))
    (.reg [] [⟨some 37, (.binOp .add 3 (.tmp 24) (.const (.int .i64 1)) 3), 3, none⟩,
      ⟨some 24, (.move (.tmp 37)), 3, none⟩])))))))
    (.seq (.seq (.reg [] [⟨some 38, (.move (.tmp 10)), 3, none⟩,
      ⟨some 39, (.move (.tmp 9)), 3, none⟩,
      ⟨some 40, (.binOp .sub 3 (.tmp 38) (.tmp 39) 3), 3, none⟩,
      ⟨some 41, (.binOp .add 3 (.tmp 40) (.const (.int .i64 1)) 3), 3, none⟩,
      ⟨some 42, (.move (.tmp 8)), 32, none⟩,
      ⟨some 43, (.call ⟨(.builtin .len), #[(.tmp 42)], #[32]⟩), 3, none⟩,
      ⟨some 44, (.binOp .neq 3 (.tmp 41) (.tmp 43) 3), 4, none⟩])
    (.cond (.tmp 44)
    (.seq (.reg [] [⟨some 4, (.assign (.const (.slice none 0 0))), 32, none⟩,
      ⟨some 5, (.assign (.const (.bool false))), 4, none⟩])
    .ret)
    .skip))
    (.reg [] [⟨some 45, (.move (.tmp 6)), 32, none⟩,
      ⟨some 46, (.move (.tmp 10)), 3, none⟩,
      ⟨some 47, (.buildSlice 32 1 #[(0, (.tmp 46))]), 32, none⟩,
      ⟨some 48, (.call ⟨(.builtin .append), #[(.tmp 45), (.tmp 47)], #[32, 32]⟩), 32, none⟩,
      ⟨some 6, (.assign (.tmp 48)), 32, none⟩]))))))
    (.reg [] [⟨some 49, (.binOp .add 3 (.tmp 16) (.const (.int .i64 1)) 3), 3, none⟩,
      ⟨some 16, (.move (.tmp 49)), 3, none⟩])))))))
    (.seq (.reg [] [⟨some 50, (.move (.tmp 6)), 32, none⟩,
      ⟨some 4, (.assign (.tmp 50)), 32, none⟩,
      ⟨some 5, (.assign (.const (.bool true))), 4, none⟩])
    .ret))))
def A26 : ACode :=
  (.seq (.reg [] [⟨some 6, (.assign (.const (.bool false))), 4, none⟩])
    (.seq (.seq (.reg [] [⟨some 8, (.move (.tmp 1)), 32, none⟩,
      ⟨some 9, (.call ⟨(.builtin .len), #[(.tmp 8)], #[32]⟩), 3, none⟩,
      ⟨some 10, (.move (.tmp 0)), 3, none⟩,
      ⟨some 11, (.binOp .eql 3 (.tmp 9) (.tmp 10) 3), 4, none⟩])
    (.cond (.tmp 11)
    (.seq (.reg [] [⟨some 12, (.move (.tmp 2)), 34, none⟩,
      ⟨some 13, (.move (.tmp 1)), 32, none⟩,
      ⟨some 14, (.call ⟨(.value (.tmp 12)), #[(.tmp 13)], #[32]⟩), 4, none⟩,
      ⟨some 6, (.assign (.tmp 14)), 4, none⟩])
    .ret)
    .skip))
    (.seq (.seq (.reg [] [⟨some 15, (.move (.tmp 0)), 3, none⟩,
      ⟨some 16, (.move (.const (.int .i64 0))), 3, none⟩])
    (.block 0 (.loop (.seq (.reg [] [⟨some 17, (.binOp .lss 3 (.tmp 16) (.tmp 15) 3), 4, none⟩])
    (.seq (.cond (.tmp 17)
    .skip
    (.exit 0))
    (.seq (.block 1 (.seq (.reg [] [⟨some 18, (.move (.tmp 16)), 3, none⟩,
      ⟨some 7, (.assign (.tmp 18)), 3, none⟩])
    (.seq (.reg [] [⟨some 19, (.move (.tmp 1)), 32, none⟩,
      ⟨some 20, (.move (.tmp 7)), 3, none⟩,
      ⟨some 21, (.call ⟨(.value (.func 48)), #[(.tmp 19), (.tmp 20)], #[32, 3]⟩), 4, none⟩,
      ⟨some 22, (.unOp .not 4 (.tmp 21)), 4, none⟩,
      ⟨some 23, (.move (.tmp 22)), 4, none⟩,
      ⟨some 24, (.move (.tmp 0)), 3, some (23, true)⟩,
      ⟨some 25, (.move (.tmp 1)), 32, some (23, true)⟩,
      ⟨some 26, (.call ⟨(.value (.func 19)), #[(.tmp 25)], #[32]⟩), 32, some (23, true)⟩,
      ⟨some 27, (.move (.tmp 7)), 3, some (23, true)⟩,
      ⟨some 28, (.buildSlice 32 1 #[(0, (.tmp 27))]), 32, some (23, true)⟩,
      ⟨some 29, (.call ⟨(.builtin .append), #[(.tmp 26), (.tmp 28)], #[32, 32]⟩), 32, some (23, true)⟩,
      ⟨some 30, (.move (.tmp 2)), 34, some (23, true)⟩,
      ⟨some 31, (.call ⟨(.value (.func 26)), #[(.tmp 24), (.tmp 29), (.tmp 30)], #[3, 32, 34]⟩), 4, some (23, true)⟩,
      ⟨some 32, (.unOp .not 4 (.tmp 31)), 4, some (23, true)⟩,
      ⟨some 33, (.pick (.tmp 23) (.tmp 32) (.const (.bool false))), 4, none⟩])
    (.cond (.tmp 33)
    (.seq (.reg [] [⟨some 6, (.assign (.const (.bool false))), 4, none⟩])
    .ret)
    .skip))))
    (.reg [] [⟨some 34, (.binOp .add 3 (.tmp 16) (.const (.int .i64 1)) 3), 3, none⟩,
      ⟨some 16, (.move (.tmp 34)), 3, none⟩])))))))
    (.seq (.reg [] [⟨some 6, (.assign (.const (.bool true))), 4, none⟩])
    .ret))))
theorem CB26 {xs : List AV} {m m' : List (Nat × Option Box)} {r : AV} (hn : xs.length ≤ 35) (hm : (m.all fun p => p.2.isSome) = true) (h : vc Tryz.prog T [] A26 (FinB T [(.tmp 6)] m r m') ⟨envOf 0 xs, m⟩) : CallB Tryz.prog 26 xs m r m' :=
  callB_of tok mixed Tryz.func26 (by kernel_rfl) (by kernel_rfl) (by kernel_rfl : Tryz.f26.ntmps = 35) (by kernel_rfl : Tryz.f26.body.bind (strip 35 (fun _ => [])) = some A26) hn hm h

def A14 : ACode :=
  (.seq (.reg [] [⟨some 3, (.box 22 (.tmp 1)), 0, none⟩,
      ⟨some 4, (.assign (.const (.slice none 0 0))), 32, none⟩,
      ⟨some 5, (.assign (.const (.bool false))), 4, none⟩,
      ⟨some 6, (.assign (.const (.int .i64 0))), 26, none⟩])
    (.seq (.seq (.reg [] [⟨some 9, (.move (.tmp 0)), 3, none⟩,
      ⟨some 10, (.load 22 (.tmp 3)), 22, none⟩,
      ⟨some 11, (.call ⟨(.value (.func 25)), #[(.tmp 9), (.tmp 10)], #[3, 22]⟩), 26, none⟩,
      ⟨some 7, (.assign (.tmp 11)), 26, none⟩])
    (.seq (.reg [] [⟨some 12, (.move (.tmp 7)), 26, none⟩,
      ⟨some 13, (.binOp .neq 26 (.tmp 12) (.const (.int .i64 0)) 26), 4, none⟩])
    (.cond (.tmp 13)
    (.seq (.reg [] [⟨some 14, (.move (.tmp 7)), 26, none⟩,
      ⟨some 4, (.assign (.const (.slice none 0 0))), 32, none⟩,
      ⟨some 5, (.assign (.const (.bool false))), 4, none⟩,
      ⟨some 6, (.assign (.tmp 14)), 26, none⟩])
    .ret)
    .skip)))
    (.seq (.reg [] [⟨some 8, (.alloc 32), 0, none⟩])
    (.seq (.reg [] [⟨some 15, (.move (.tmp 0)), 3, none⟩,
      ⟨some 16, (.makeFunc (.func 27) #[] #[(.tmp 3), (.tmp 8)]), 34, none⟩,
      ⟨some 17, (.call ⟨(.value (.func 26)), #[(.tmp 15), (.const (.slice none 0 0)), (.tmp 16)], #[3, 32, 34]⟩), 4, none⟩])
    (.seq (.draw [] [⟨some 18, (.load 32 (.tmp 8)), 32, none⟩,
      ⟨some 19, (.load 32 (.tmp 8)), 32, none⟩,
      ⟨some 20, (.binOp .neq 32 (.tmp 19) (.const (.slice none 0 0)) 32), 4, none⟩,
      ⟨some 4, (.assign (.tmp 18)), 32, none⟩,
      ⟨some 5, (.assign (.tmp 20)), 4, none⟩,
      ⟨some 6, (.assign (.const (.int .i64 0))), 26, none⟩] [(0, 1), (0, 2), (1, 3), (2, 3)])
    .ret)))))
theorem C14 {args : List AV} {r : AV} (hn : args.length ≤ 21) (h : vc Tryz.prog T [] A14 (Fin T [(.tmp 4), (.tmp 5), (.tmp 6)] r) ⟨envOf 0 args, []⟩) : CallP Tryz.prog 14 args r :=
  callP_of tok mixed Tryz.func14 (by kernel_rfl) (by kernel_rfl) (by kernel_rfl : Tryz.f14.ntmps = 21) (by kernel_rfl : Tryz.f14.body.bind (strip 21 (fun _ => [])) = some A14) hn h
def A27 : ACode :=
  (.seq (.reg [] [⟨some 4, (.assign (.const (.bool false))), 4, none⟩])
    (.seq (.seq (.reg [] [⟨some 8, (.load 22 (.tmp 1)), 22, none⟩,
      ⟨some 9, (.move (.tmp 0)), 32, none⟩,
      ⟨some 10, (.call ⟨(.value (.func 28)), #[(.tmp 8), (.tmp 9)], #[22, 32]⟩), 45, none⟩,
      ⟨some 7, (.move (.tmp 10)), 45, none⟩,
      ⟨some 11, (.extract (.tmp 7) 0), 32, none⟩,
      ⟨some 12, (.extract (.tmp 7) 1), 4, none⟩,
      ⟨some 5, (.assign (.tmp 11)), 32, none⟩,
      ⟨some 6, (.assign (.tmp 12)), 4, none⟩])
    (.seq (.reg [] [⟨some 13, (.move (.tmp 6)), 4, none⟩])
    (.cond (.tmp 13)
    (.reg [] [⟨some 14, (.move (.tmp 0)), 32, none⟩,
      ⟨none, (.store 32 (.tmp 2) (.tmp 14)), 0, none⟩])
    .skip)))
    (.seq (.reg [] [⟨some 15, (.load 32 (.tmp 2)), 32, none⟩,
      ⟨some 16, (.binOp .eql 32 (.tmp 15) (.const (.slice none 0 0)) 32), 4, none⟩,
      ⟨some 4, (.assign (.tmp 16)), 4, none⟩])
    .ret)))
theorem CB27 {xs : List AV} {m m' : List (Nat × Option Box)} {r : AV} (hn : xs.length ≤ 17) (hm : (m.all fun p => p.2.isSome) = true) (h : vc Tryz.prog T [] A27 (FinB T [(.tmp 4)] m r m') ⟨envOf 0 xs, m⟩) : CallB Tryz.prog 27 xs m r m' :=
  callB_of tok mixed Tryz.func27 (by kernel_rfl) (by kernel_rfl) (by kernel_rfl : Tryz.f27.ntmps = 17) (by kernel_rfl : Tryz.f27.body.bind (strip 17 (fun _ => [])) = some A27) hn hm h

def A18 : ACode :=
  (.seq (.reg [] [⟨some 8, (.assign (.const (.slice none 0 0))), 22, none⟩])
    (.seq (.reg [] [⟨some 15, (.move (.tmp 0)), 22, none⟩,
      ⟨some 16, (.move (.tmp 1)), 3, none⟩,
      ⟨some 17, (.move (.tmp 2)), 3, none⟩,
      ⟨some 18, (.slice 22 (.tmp 15) (some (.tmp 16)) (some (.tmp 17)) none), 22, none⟩])
    (.seq (.seq (.reg [] [⟨some 19, (.move (.tmp 1)), 3, none⟩,
      ⟨some 20, (.move (.tmp 2)), 3, none⟩,
      ⟨some 21, (.binOp .eql 3 (.tmp 19) (.tmp 20) 3), 4, none⟩])
    (.cond (.tmp 21)
    (.seq (.reg [] [⟨some 22, (.move (.tmp 0)), 22, none⟩,
      ⟨some 23, (.move (.tmp 1)), 3, none⟩,
      ⟨some 24, (.move (.tmp 3)), 22, none⟩,
      ⟨some 25, (.call ⟨(.value (.func 33)), #[(.tmp 22), (.tmp 23), (.tmp 24)], #[22, 3, 22]⟩), 22, none⟩,
      ⟨some 8, (.assign (.tmp 25)), 22, none⟩])
    .ret)
    .skip))
    (.seq (.seq (.reg [] [⟨some 26, (.move (.tmp 2)), 3, none⟩,
      ⟨some 27, (.move (.tmp 0)), 22, none⟩,
      ⟨some 28, (.call ⟨(.builtin .len), #[(.tmp 27)], #[22]⟩), 3, none⟩,
      ⟨some 29, (.binOp .eql 3 (.tmp 26) (.tmp 28) 3), 4, none⟩])
    (.cond (.tmp 29)
    (.seq (.reg [] [⟨some 30, (.move (.tmp 0)), 22, none⟩,
      ⟨some 31, (.move (.tmp 1)), 3, none⟩,
      ⟨some 32, (.slice 22 (.tmp 30) none (some (.tmp 31)) none), 22, none⟩,
      ⟨some 33, (.move (.tmp 3)), 22, none⟩,
      ⟨some 34, (.call ⟨(.builtin .append), #[(.tmp 32), (.tmp 33)], #[22, 22]⟩), 22, none⟩,
      ⟨some 9, (.assign (.tmp 34)), 22, none⟩])
    (.seq (.seq (.reg [] [⟨some 35, (.move (.tmp 9)), 22, none⟩,
      ⟨some 36, (.call ⟨(.builtin .len), #[(.tmp 35)], #[22]⟩), 3, none⟩,
      ⟨some 37, (.move (.tmp 0)), 22, none⟩,
      ⟨some 38, (.call ⟨(.builtin .len), #[(.tmp 37)], #[22]⟩), 3, none⟩,
      ⟨some 39, (.binOp .lss 3 (.tmp 36) (.tmp 38) 3), 4, none⟩])
    (.cond (.tmp 39)
    (.reg [] [⟨some 40, (.move (.tmp 0)), 22, none⟩,
      ⟨some 41, (.move (.tmp 9)), 22, none⟩,
      ⟨some 42, (.call ⟨(.builtin .len), #[(.tmp 41)], #[22]⟩), 3, none⟩,
      ⟨some 43, (.slice 22 (.tmp 40) (some (.tmp 42)) none none), 22, none⟩,
      ⟨none, (.call ⟨(.builtin .clear), #[(.tmp 43)], #[22]⟩), 0, none⟩])
    .skip))
    (.seq (.reg [] [⟨some 44, (.move (.tmp 9)), 22, none⟩,
      ⟨some 8, (.assign (.tmp 44)), 22, none⟩])
    .ret)))
    .skip))
    (.seq (.draw [] [⟨some 45, (.move (.tmp 0)), 22, none⟩,
      ⟨some 46, (.move (.tmp 1)), 3, none⟩,
      ⟨some 47, (.slice 22 (.tmp 45) none (some (.tmp 46)) none), 22, none⟩,
      ⟨some 48, (.call ⟨(.builtin .len), #[(.tmp 47)], #[22]⟩), 3, none⟩,
      ⟨some 49, (.move (.tmp 3)), 22, none⟩,
      ⟨some 50, (.call ⟨(.builtin .len), #[(.tmp 49)], #[22]⟩), 3, none⟩,
      ⟨some 51, (.binOp .add 3 (.tmp 48) (.tmp 50) 3), 3, none⟩,
      ⟨some 52, (.move (.tmp 0)), 22, none⟩,
      ⟨some 53, (.move (.tmp 2)), 3, none⟩,
      ⟨some 54, (.slice 22 (.tmp 52) (some (.tmp 53)) none none), 22, none⟩,
      ⟨some 55, (.call ⟨(.builtin .len), #[(.tmp 54)], #[22]⟩), 3, none⟩,
      ⟨some 56, (.binOp .add 3 (.tmp 51) (.tmp 55) 3), 3, none⟩,
      ⟨some 10, (.assign (.tmp 56)), 3, none⟩] [(0, 1), (0, 4), (1, 4), (2, 4), (3, 4), (0, 5), (1, 5), (2, 5), (3, 5), (0, 7), (1, 7), (2, 7), (3, 7), (4, 7), (5, 7), (6, 7), (0, 8), (1, 8), (2, 8), (3, 8), (4, 8), (5, 8), (6, 8), (7, 8), (0, 9), (1, 9), (2, 9), (3, 9), (4, 9), (5, 9), (6, 9), (0, 10), (1, 10), (2, 10), (3, 10), (4, 10), (5, 10), (6, 10)])
    (.seq (.seq (.reg [] [⟨some 57, (.move (.tmp 10)), 3, none⟩,
      ⟨some 58, (.move (.tmp 0)), 22, none⟩,
      ⟨some 59, (.call ⟨(.builtin .cap), #[(.tmp 58)], #[22]⟩), 3, none⟩,
      ⟨some 60, (.binOp .gtr 3 (.tmp 57) (.tmp 59) 3), 4, none⟩])
    (.cond (.tmp 60)
    (.seq (.reg [] [⟨some 61, (.move (.tmp 0)), 22, none⟩,
      ⟨some 62, (.move (.tmp 1)), 3, none⟩,
      ⟨some 63, (.slice 22 (.tmp 61) none (some (.tmp 62)) none), 22, none⟩,
      ⟨some 64, (.move (.tmp 10)), 3, none⟩,
      ⟨some 65, (.move (.tmp 1)), 3, none⟩,
      ⟨some 66, (.binOp .sub 3 (.tmp 64) (.tmp 65) 3), 3, none⟩,
      ⟨some 67, (.call ⟨(.builtin .append), #[(.tmp 63), (.tmp 66)], #[22, 3]⟩), 22, none⟩,
      ⟨some 11, (.assign (.tmp 67)), 22, none⟩])
    (.seq (.reg [] [⟨some 68, (.move (.tmp 11)), 22, none⟩,
      ⟨some 69, (.move (.tmp 1)), 3, none⟩,
      ⟨some 70, (.slice 22 (.tmp 68) (some (.tmp 69)) none none), 22, none⟩,
      ⟨some 71, (.move (.tmp 3)), 22, none⟩,
      ⟨some 72, (.call ⟨(.builtin .copy), #[(.tmp 70), (.tmp 71)], #[22, 22]⟩), 3, none⟩])
    (.seq (.draw [] [⟨some 73, (.move (.tmp 11)), 22, none⟩,
      ⟨some 74, (.move (.tmp 1)), 3, none⟩,
      ⟨some 75, (.move (.tmp 3)), 22, none⟩,
      ⟨some 76, (.call ⟨(.builtin .len), #[(.tmp 75)], #[22]⟩), 3, none⟩,
      ⟨some 77, (.binOp .add 3 (.tmp 74) (.tmp 76) 3), 3, none⟩,
      ⟨some 78, (.slice 22 (.tmp 73) (some (.tmp 77)) none none), 22, none⟩,
      ⟨some 79, (.move (.tmp 0)), 22, none⟩,
      ⟨some 80, (.move (.tmp 2)), 3, none⟩,
      ⟨some 81, (.slice 22 (.tmp 79) (some (.tmp 80)) none none), 22, none⟩,
      ⟨some 82, (.call ⟨(.builtin .copy), #[(.tmp 78), (.tmp 81)], #[22, 22]⟩), 3, none⟩] [(0, 1), (0, 2), (1, 2), (0, 3), (1, 3), (0, 4), (0, 6), (1, 6), (2, 6), (3, 6), (4, 6), (5, 6), (0, 7), (1, 7), (2, 7), (3, 7), (4, 7), (5, 7), (6, 7), (0, 8), (1, 8), (2, 8), (3, 8), (4, 8), (5, 8)])
    (.seq (.reg [] [⟨some 83, (.move (.tmp 11)), 22, none⟩,
      ⟨some 8, (.assign (.tmp 83)), 22, none⟩])
    .ret))))
    .skip))
    (.seq (.reg [] [⟨some 84, (.move (.tmp 0)), 22, none⟩,
      ⟨some 85, (.move (.tmp 10)), 3, none⟩,
      ⟨some 86, (.slice 22 (.tmp 84) none (some (.tmp 85)) none), 22, none⟩,
      ⟨some 12, (.assign (.tmp 86)), 22, none⟩])
    (.seq (.seq (.reg [] [⟨some 87, (.move (.tmp 1)), 3, none⟩,
      ⟨some 88, (.move (.tmp 3)), 22, none⟩,
      ⟨some 89, (.call ⟨(.builtin .len), #[(.tmp 88)], #[22]⟩), 3, none⟩,
      ⟨some 90, (.binOp .add 3 (.tmp 87) (.tmp 89) 3), 3, none⟩,
      ⟨some 91, (.move (.tmp 2)), 3, none⟩,
      ⟨some 92, (.binOp .leq 3 (.tmp 90) (.tmp 91) 3), 4, none⟩])
    (.cond (.tmp 92)
    (.seq (.reg [] [⟨some 93, (.move (.tmp 12)), 22, none⟩,
      ⟨some 94, (.move (.tmp 1)), 3, none⟩,
      ⟨some 95, (.slice 22 (.tmp 93) (some (.tmp 94)) none none), 22, none⟩,
      ⟨some 96, (.move (.tmp 3)), 22, none⟩,
      ⟨some 97, (.call ⟨(.builtin .copy), #[(.tmp 95), (.tmp 96)], #[22, 22]⟩), 3, none⟩])
    (.seq (.draw [] [⟨some 98, (.move (.tmp 12)), 22, none⟩,
      ⟨some 99, (.move (.tmp 1)), 3, none⟩,
      ⟨some 100, (.move (.tmp 3)), 22, none⟩,
      ⟨some 101, (.call ⟨(.builtin .len), #[(.tmp 100)], #[22]⟩), 3, none⟩,
      ⟨some 102, (.binOp .add 3 (.tmp 99) (.tmp 101) 3), 3, none⟩,
      ⟨some 103, (.slice 22 (.tmp 98) (some (.tmp 102)) none none), 22, none⟩,
      ⟨some 104, (.move (.tmp 0)), 22, none⟩,
      ⟨some 105, (.move (.tmp 2)), 3, none⟩,
      ⟨some 106, (.slice 22 (.tmp 104) (some (.tmp 105)) none none), 22, none⟩,
      ⟨some 107, (.call ⟨(.builtin .copy), #[(.tmp 103), (.tmp 106)], #[22, 22]⟩), 3, none⟩] [(0, 1), (0, 2), (1, 2), (0, 3), (1, 3), (0, 4), (0, 6), (1, 6), (2, 6), (3, 6), (4, 6), (5, 6), (0, 7), (1, 7), (2, 7), (3, 7), (4, 7), (5, 7), (6, 7), (0, 8), (1, 8), (2, 8), (3, 8), (4, 8), (5, 8)])
    (.seq (.reg [] [⟨some 108, (.move (.tmp 0)), 22, none⟩,
      ⟨some 109, (.move (.tmp 10)), 3, none⟩,
      ⟨some 110, (.slice 22 (.tmp 108) (some (.tmp 109)) none none), 22, none⟩,
      ⟨none, (.call ⟨(.builtin .clear), #[(.tmp 110)], #[22]⟩), 0, none⟩])
    (.seq (.reg [] [⟨some 111, (.move (.tmp 12)), 22, none⟩,
      ⟨some 8, (.assign (.tmp 111)), 22, none⟩])
    .ret))))
    .skip))
    (.seq (.seq (.reg [] [⟨some 112, (.move (.tmp 12)), 22, none⟩,
      ⟨some 113, (.move (.tmp 1)), 3, none⟩,
      ⟨some 114, (.move (.tmp 3)), 22, none⟩,
      ⟨some 115, (.call ⟨(.builtin .len), #[(.tmp 114)], #[22]⟩), 3, none⟩,
      ⟨some 116, (.binOp .add 3 (.tmp 113) (.tmp 115) 3), 3, none⟩,
      ⟨some 117, (.slice 22 (.tmp 112) (some (.tmp 116)) none none), 22, none⟩,
      ⟨some 118, (.move (.tmp 3)), 22, none⟩,
      ⟨some 119, (.call ⟨(.value (.func 34)), #[(.tmp 117), (.tmp 118)], #[22, 22]⟩), 4, none⟩,
      ⟨some 120, (.unOp .not 4 (.tmp 119)), 4, none⟩])
    (.cond (.tmp 120)
    (.seq (.draw [] [⟨some 121, (.move (.tmp 12)), 22, none⟩,
      ⟨some 122, (.move (.tmp 1)), 3, none⟩,
      ⟨some 123, (.move (.tmp 3)), 22, none⟩,
      ⟨some 124, (.call ⟨(.builtin .len), #[(.tmp 123)], #[22]⟩), 3, none⟩,
      ⟨some 125, (.binOp .add 3 (.tmp 122) (.tmp 124) 3), 3, none⟩,
      ⟨some 126, (.slice 22 (.tmp 121) (some (.tmp 125)) none none), 22, none⟩,
      ⟨some 127, (.move (.tmp 0)), 22, none⟩,
      ⟨some 128, (.move (.tmp 2)), 3, none⟩,
      ⟨some 129, (.slice 22 (.tmp 127) (some (.tmp 128)) none none), 22, none⟩,
      ⟨some 130, (.call ⟨(.builtin .copy), #[(.tmp 126), (.tmp 129)], #[22, 22]⟩), 3, none⟩] [(0, 1), (0, 2), (1, 2), (0, 3), (1, 3), (0, 4), (0, 6), (1, 6), (2, 6), (3, 6), (4, 6), (5, 6), (0, 7), (1, 7), (2, 7), (3, 7), (4, 7), (5, 7), (6, 7), (0, 8), (1, 8), (2, 8), (3, 8), (4, 8), (5, 8)])
    (.seq (.reg [] [⟨some 131, (.move (.tmp 12)), 22, none⟩,
      ⟨some 132, (.move (.tmp 1)), 3, none⟩,
      ⟨some 133, (.slice 22 (.tmp 131) (some (.tmp 132)) none none), 22, none⟩,
      ⟨some 134, (.move (.tmp 3)), 22, none⟩,
      ⟨some 135, (.call ⟨(.builtin .copy), #[(.tmp 133), (.tmp 134)], #[22, 22]⟩), 3, none⟩])
    (.seq (.reg [] [⟨some 136, (.move (.tmp 12)), 22, none⟩,
      ⟨some 8, (.assign (.tmp 136)), 22, none⟩])
    .ret)))
    .skip))
    (.seq (.reg [] [⟨some 137, (.move (.tmp 3)), 22, none⟩,
      ⟨some 138, (.call ⟨(.builtin .len), #[(.tmp 137)], #[22]⟩), 3, none⟩,
      ⟨some 139, (.move (.tmp 2)), 3, none⟩,
      ⟨some 140, (.move (.tmp 1)), 3, none⟩,
      ⟨some 141, (.binOp .sub 3 (.tmp 139) (.tmp 140) 3), 3, none⟩,
      ⟨some 142, (.binOp .sub 3 (.tmp 138) (.tmp 141) 3), 3, none⟩,
      ⟨some 13, (.assign (.tmp 142)), 3, none⟩])
    (.seq (.seq (.reg [] [⟨some 143, (.move (.tmp 12)), 22, none⟩,
      ⟨some 144, (.move (.tmp 1)), 3, none⟩,
      ⟨some 145, (.move (.tmp 2)), 3, none⟩,
      ⟨some 146, (.slice 22 (.tmp 143) (some (.tmp 144)) (some (.tmp 145)) none), 22, none⟩,
      ⟨some 147, (.move (.tmp 3)), 22, none⟩,
      ⟨some 148, (.call ⟨(.value (.func 34)), #[(.tmp 146), (.tmp 147)], #[22, 22]⟩), 4, none⟩,
      ⟨some 149, (.unOp .not 4 (.tmp 148)), 4, none⟩])
    (.cond (.tmp 149)
    (.seq (.draw [] [⟨some 150, (.move (.tmp 12)), 22, none⟩,
      ⟨some 151, (.move (.tmp 1)), 3, none⟩,
      ⟨some 152, (.move (.tmp 2)), 3, none⟩,
      ⟨some 153, (.slice 22 (.tmp 150) (some (.tmp 151)) (some (.tmp 152)) none), 22, none⟩,
      ⟨some 154, (.move (.tmp 3)), 22, none⟩,
      ⟨some 155, (.move (.tmp 13)), 3, none⟩,
      ⟨some 156, (.slice 22 (.tmp 154) (some (.tmp 155)) none none), 22, none⟩,
      ⟨some 157, (.call ⟨(.builtin .copy), #[(.tmp 153), (.tmp 156)], #[22, 22]⟩), 3, none⟩] [(0, 1), (0, 2), (1, 2), (0, 4), (1, 4), (2, 4), (3, 4), (0, 5), (1, 5), (2, 5), (3, 5), (4, 5), (0, 6), (1, 6), (2, 6), (3, 6)])
    (.seq (.draw [] [⟨some 158, (.move (.tmp 12)), 22, none⟩,
      ⟨some 159, (.move (.tmp 0)), 22, none⟩,
      ⟨some 160, (.call ⟨(.builtin .len), #[(.tmp 159)], #[22]⟩), 3, none⟩,
      ⟨some 161, (.slice 22 (.tmp 158) (some (.tmp 160)) none none), 22, none⟩,
      ⟨some 162, (.move (.tmp 3)), 22, none⟩,
      ⟨some 163, (.move (.tmp 13)), 3, none⟩,
      ⟨some 164, (.slice 22 (.tmp 162) none (some (.tmp 163)) none), 22, none⟩,
      ⟨some 165, (.call ⟨(.builtin .copy), #[(.tmp 161), (.tmp 164)], #[22, 22]⟩), 3, none⟩] [(0, 1), (0, 2), (0, 4), (1, 4), (2, 4), (3, 4), (0, 5), (1, 5), (2, 5), (3, 5), (4, 5), (0, 6), (1, 6), (2, 6), (3, 6)])
    (.seq (.reg [] [⟨some 166, (.move (.tmp 12)), 22, none⟩,
      ⟨some 167, (.move (.tmp 1)), 3, none⟩,
      ⟨some 168, (.slice 22 (.tmp 166) (some (.tmp 167)) none none), 22, none⟩,
      ⟨some 169, (.move (.tmp 13)), 3, none⟩,
      ⟨some 170, (.call ⟨(.value (.func 35)), #[(.tmp 168), (.tmp 169)], #[22, 3]⟩), 0, none⟩])
    (.seq (.reg [] [⟨some 171, (.move (.tmp 12)), 22, none⟩,
      ⟨some 8, (.assign (.tmp 171)), 22, none⟩])
    .ret))))
    .skip))
    (.seq (.seq (.reg [] [⟨some 172, (.move (.tmp 12)), 22, none⟩,
      ⟨some 173, (.move (.tmp 0)), 22, none⟩,
      ⟨some 174, (.call ⟨(.builtin .len), #[(.tmp 173)], #[22]⟩), 3, none⟩,
      ⟨some 175, (.slice 22 (.tmp 172) (some (.tmp 174)) none none), 22, none⟩,
      ⟨some 176, (.move (.tmp 3)), 22, none⟩,
      ⟨some 177, (.call ⟨(.value (.func 34)), #[(.tmp 175), (.tmp 176)], #[22, 22]⟩), 4, none⟩,
      ⟨some 178, (.unOp .not 4 (.tmp 177)), 4, none⟩])
    (.cond (.tmp 178)
    (.seq (.draw [] [⟨some 179, (.move (.tmp 12)), 22, none⟩,
      ⟨some 180, (.move (.tmp 0)), 22, none⟩,
      ⟨some 181, (.call ⟨(.builtin .len), #[(.tmp 180)], #[22]⟩), 3, none⟩,
      ⟨some 182, (.slice 22 (.tmp 179) (some (.tmp 181)) none none), 22, none⟩,
      ⟨some 183, (.move (.tmp 3)), 22, none⟩,
      ⟨some 184, (.move (.tmp 13)), 3, none⟩,
      ⟨some 185, (.slice 22 (.tmp 183) none (some (.tmp 184)) none), 22, none⟩,
      ⟨some 186, (.call ⟨(.builtin .copy), #[(.tmp 182), (.tmp 185)], #[22, 22]⟩), 3, none⟩] [(0, 1), (0, 2), (0, 4), (1, 4), (2, 4), (3, 4), (0, 5), (1, 5), (2, 5), (3, 5), (4, 5), (0, 6), (1, 6), (2, 6), (3, 6)])
    (.seq (.draw [] [⟨some 187, (.move (.tmp 12)), 22, none⟩,
      ⟨some 188, (.move (.tmp 1)), 3, none⟩,
      ⟨some 189, (.move (.tmp 2)), 3, none⟩,
      ⟨some 190, (.slice 22 (.tmp 187) (some (.tmp 188)) (some (.tmp 189)) none), 22, none⟩,
      ⟨some 191, (.move (.tmp 3)), 22, none⟩,
      ⟨some 192, (.move (.tmp 13)), 3, none⟩,
      ⟨some 193, (.slice 22 (.tmp 191) (some (.tmp 192)) none none), 22, none⟩,
      ⟨some 194, (.call ⟨(.builtin .copy), #[(.tmp 190), (.tmp 193)], #[22, 22]⟩), 3, none⟩] [(0, 1), (0, 2), (1, 2), (0, 4), (1, 4), (2, 4), (3, 4), (0, 5), (1, 5), (2, 5), (3, 5), (4, 5), (0, 6), (1, 6), (2, 6), (3, 6)])
    (.seq (.reg [] [⟨some 195, (.move (.tmp 12)), 22, none⟩,
      ⟨some 196, (.move (.tmp 1)), 3, none⟩,
      ⟨some 197, (.slice 22 (.tmp 195) (some (.tmp 196)) none none), 22, none⟩,
      ⟨some 198, (.move (.tmp 13)), 3, none⟩,
      ⟨some 199, (.call ⟨(.value (.func 35)), #[(.tmp 197), (.tmp 198)], #[22, 3]⟩), 0, none⟩])
    (.seq (.reg [] [⟨some 200, (.move (.tmp 12)), 22, none⟩,
      ⟨some 8, (.assign (.tmp 200)), 22, none⟩])
    .ret))))
    .skip))
    (.seq (.reg [] [⟨some 201, (.move (.tmp 3)), 22, none⟩,
      ⟨some 202, (.move (.tmp 0)), 22, none⟩,
      ⟨some 203, (.move (.tmp 2)), 3, none⟩,
      ⟨some 204, (.slice 22 (.tmp 202) (some (.tmp 203)) none none), 22, none⟩,
      ⟨some 205, (.call ⟨(.value (.func 36)), #[(.tmp 201), (.tmp 204)], #[22, 22]⟩), 3, none⟩,
      ⟨some 14, (.assign (.tmp 205)), 3, none⟩])
    (.seq (.reg [] [⟨some 206, (.move (.tmp 12)), 22, none⟩,
      ⟨some 207, (.move (.tmp 1)), 3, none⟩,
      ⟨some 208, (.slice 22 (.tmp 206) (some (.tmp 207)) none none), 22, none⟩,
      ⟨some 209, (.move (.tmp 3)), 22, none⟩,
      ⟨some 210, (.call ⟨(.builtin .copy), #[(.tmp 208), (.tmp 209)], #[22, 22]⟩), 3, none⟩])
    (.seq (.draw [] [⟨some 211, (.move (.tmp 12)), 22, none⟩,
      ⟨some 212, (.move (.tmp 1)), 3, none⟩,
      ⟨some 213, (.move (.tmp 3)), 22, none⟩,
      ⟨some 214, (.call ⟨(.builtin .len), #[(.tmp 213)], #[22]⟩), 3, none⟩,
      ⟨some 215, (.binOp .add 3 (.tmp 212) (.tmp 214) 3), 3, none⟩,
      ⟨some 216, (.slice 22 (.tmp 211) (some (.tmp 215)) none none), 22, none⟩,
      ⟨some 217, (.move (.tmp 12)), 22, none⟩,
      ⟨some 218, (.move (.tmp 1)), 3, none⟩,
      ⟨some 219, (.move (.tmp 14)), 3, none⟩,
      ⟨some 220, (.binOp .add 3 (.tmp 218) (.tmp 219) 3), 3, none⟩,
      ⟨some 221, (.slice 22 (.tmp 217) (some (.tmp 220)) none none), 22, none⟩,
      ⟨some 222, (.call ⟨(.builtin .copy), #[(.tmp 216), (.tmp 221)], #[22, 22]⟩), 3, none⟩] [(0, 1), (0, 2), (1, 2), (0, 3), (1, 3), (0, 4), (0, 6), (1, 6), (2, 6), (3, 6), (4, 6), (5, 6), (0, 7), (1, 7), (2, 7), (3, 7), (4, 7), (5, 7), (6, 7), (0, 8), (1, 8), (2, 8), (3, 8), (4, 8), (5, 8), (6, 8), (7, 8), (0, 9), (1, 9), (2, 9), (3, 9), (4, 9), (5, 9), (6, 9), (0, 10), (1, 10), (2, 10), (3, 10), (4, 10), (5, 10)])
    (.seq (.reg [] [⟨some 223, (.move (.tmp 12)), 22, none⟩,
      ⟨some 8, (.assign (.tmp 223)), 22, none⟩])
    .ret))))))))))))))))
theorem CB18 {xs : List AV} {m m' : List (Nat × Option Box)} {r : AV} (hn : xs.length ≤ 224) (hm : (m.all fun p => p.2.isSome) = true) (h : vc Tryz.prog T [] A18 (FinB T [(.tmp 8)] m r m') ⟨envOf 0 xs, m⟩) : CallB Tryz.prog 18 xs m r m' :=
  callB_of tok mixed Tryz.func18 (by kernel_rfl) (by kernel_rfl) (by kernel_rfl : Tryz.f18.ntmps = 224) (by kernel_rfl : Tryz.f18.body.bind (strip 224 (fun _ => [])) = some A18) hn hm h

def A73 : ACode :=
  (.seq (.reg [] [⟨some 2, (.assign (.const (.int .i64 0))), 3, none⟩])
    (.seq (.reg [] [⟨some 3, (.assign (.const (.int .i64 0))), 3, none⟩])
    (.seq (.seq (.reg [] [⟨some 6, (.move (.tmp 0)), 32, none⟩,
      ⟨some 7, (.call ⟨(.builtin .len), #[(.tmp 6)], #[32]⟩), 3, none⟩,
      ⟨some 8, (.move (.const (.int .i64 0))), 3, none⟩])
    (.block 0 (.loop (.seq (.reg [] [⟨some 9, (.binOp .lss 3 (.tmp 8) (.tmp 7) 3), 0, none⟩])
    (.seq (.cond (.tmp 9)
    .skip
    (.exit 0))
    (.seq (.block 1 (.seq (.reg [] [⟨some 10, (.indexAddr 32 (.tmp 6) (.tmp 8)), 0, none⟩,
      ⟨some 11, (.load 3 (.tmp 10)), 3, none⟩,
      ⟨some 5, (.assign (.tmp 11)), 3, none⟩])
    (.seq (.reg [] [⟨some 12, (.move (.tmp 5)), 3, none⟩,
      ⟨some 13, (.move (.tmp 3)), 3, none⟩,
      ⟨some 14, (.binOp .neq 3 (.tmp 12) (.tmp 13) 3), 4, none⟩])
    (.cond (.tmp 14)
    (.seq (.reg [] [⟨some 15, (.move (.tmp 5)), 3, none⟩,
      ⟨some 2, (.assign (.tmp 15)), 3, none⟩])
    .ret)
    .skip))))
    (.reg [] [⟨some 16, (.binOp .add 3 (.tmp 8) (.const (.int .i64 1)) 3), 3, none⟩,
      ⟨some 8, (.move (.tmp 16)), 3, none⟩])))))))
    (.seq (.reg [] [⟨some 17, (.move (.tmp 3)), 3, none⟩,
      ⟨some 2, (.assign (.tmp 17)), 3, none⟩])
    .ret))))
theorem C73 {args : List AV} {r : AV} (hn : args.length ≤ 18) (h : vc Tryz.prog T [] A73 (Fin T [(.tmp 2)] r) ⟨envOf 0 args, []⟩) : CallP Tryz.prog 73 args r :=
  callP_of tok mixed Tryz.func73 (by kernel_rfl) (by kernel_rfl) (by kernel_rfl : Tryz.f73.ntmps = 18) (by kernel_rfl : Tryz.f73.body.bind (strip 18 (fun _ => [])) = some A73) hn h

end Go.Proofs.YtphkchjhghdhiaaGreat
end

section
/- Functions of the cut as the value layer reads them. (written by gen.py) -/
set_option maxRecDepth 20000
namespace Go.Proofs.YtphkchjhghdhiaaGreat
open Go.Abs Go

def A37 : ACode :=
  (.seq (.reg [] [⟨some 2, (.assign (.const (.slice none 0 0))), 32, none⟩])
    (.seq (.reg [] [⟨some 3, (.assign (.const (.slice none 0 0))), 32, none⟩])
    (.seq (.seq (.reg [] [⟨some 4, (.assign (.const (.int .i64 0))), 3, none⟩])
    (.block 0 (.loop (.seq (.seq (.reg [] [⟨some 5, (.move (.tmp 4)), 3, none⟩,
      ⟨some 6, (.move (.tmp 0)), 22, none⟩,
      ⟨some 7, (.call ⟨(.builtin .len), #[(.tmp 6)], #[22]⟩), 3, none⟩,
      ⟨some 8, (.binOp .lss 3 (.tmp 5) (.tmp 7) 3), 4, none⟩])
    (.cond (.tmp 8)
    .skip
    (.exit 0)))
    (.seq (.block 1 (.reg [] [⟨some 11, (.move (.tmp 3)), 32, none⟩,
      ⟨some 12, (.move (.tmp 0)), 22, none⟩,
      ⟨some 13, (.move (.tmp 4)), 3, none⟩,
      ⟨some 14, (.indexAddr 22 (.tmp 12) (.tmp 13)), 0, none⟩,
      ⟨some 15, (.load 32 (.tmp 14)), 32, none⟩,
      ⟨some 16, (.call ⟨(.builtin .append), #[(.tmp 11), (.tmp 15)], #[32, 32]⟩), 32, none⟩,
      ⟨some 3, (.assign (.tmp 16)), 32, none⟩]))
    (.reg [] [⟨some 9, (.move (.tmp 4)), 3, none⟩,
      ⟨some 10, (.binOp .add 3 (.tmp 9) (.const (.int .i64 1)) 3), 3, none⟩,
      ⟨some 4, (.assign (.tmp 10)), 3, none⟩]))))))
    (.seq (.reg [] [⟨some 17, (.move (.tmp 3)), 32, none⟩,
      ⟨some 2, (.assign (.tmp 17)), 32, none⟩])
    .ret))))
theorem C37 {args : List AV} {r : AV} (hn : args.length ≤ 18) (h : vc Tryz.prog T [] A37 (Fin T [(.tmp 2)] r) ⟨envOf 0 args, []⟩) : CallP Tryz.prog 37 args r :=
  callP_of tok mixed Tryz.func37 (by kernel_rfl) (by kernel_rfl) (by kernel_rfl : Tryz.f37.ntmps = 18) (by kernel_rfl : Tryz.f37.body.bind (strip 18 (fun _ => [])) = some A37) hn h
def A20 : ACode :=
  (.seq (.reg [] [⟨some 2, (.assign (.const (.int .i64 0))), 26, none⟩])
    (.seq (.seq (.reg [] [⟨some 7, (.move (.tmp 0)), 22, none⟩,
      ⟨some 8, (.call ⟨(.builtin .len), #[(.tmp 7)], #[22]⟩), 3, none⟩,
      ⟨some 9, (.call ⟨(.value (.func 21)), #[(.tmp 8), (.const (.int .i64 1)), (.const (.int .i64 6))], #[3, 3, 3]⟩), 4, none⟩,
      ⟨some 10, (.unOp .not 4 (.tmp 9)), 4, none⟩])
    (.cond (.tmp 10)
    (.seq (.reg [] [⟨some 2, (.assign (.const (.int .i64 3))), 26, none⟩])
    .ret)
    .skip))
    (.seq (.seq (.reg [] [⟨some 3, (.assign (.const (.int .i64 0))), 3, none⟩])
    (.block 0 (.loop (.seq (.seq (.reg [] [⟨some 11, (.move (.tmp 3)), 3, none⟩,
      ⟨some 12, (.move (.tmp 0)), 22, none⟩,
      ⟨some 13, (.call ⟨(.builtin .len), #[(.tmp 12)], #[22]⟩), 3, none⟩,
      ⟨some 14, (.binOp .lss 3 (.tmp 11) (.tmp 13) 3), 4, none⟩])
    (.cond (.tmp 14)
    .skip
    (.exit 0)))
    (.seq (.block 1 (.seq (.seq (.reg [] [⟨some 17, (.move (.tmp 0)), 22, none⟩,
      ⟨some 18, (.move (.tmp 3)), 3, none⟩,
      ⟨some 19, (.indexAddr 22 (.tmp 17) (.tmp 18)), 0, none⟩,
      ⟨some 20, (.load 32 (.tmp 19)), 32, none⟩,
      ⟨some 21, (.call ⟨(.builtin .len), #[(.tmp 20)], #[32]⟩), 3, none⟩,
      ⟨some 22, (.binOp .eql 3 (.tmp 21) (.const (.int .i64 0)) 3), 4, none⟩])
    (.cond (.tmp 22)
    (.seq (.reg [] [⟨some 2, (.assign (.const (.int .i64 1))), 26, none⟩])
    .ret)
    .skip))
    (.seq (.reg [] [⟨some 4, (.assign (.const (.int .i64 0))), 3, none⟩])
    (.block 2 (.loop (.seq (.seq (.reg [] [⟨some 23, (.move (.tmp 4)), 3, none⟩,
      ⟨some 24, (.move (.tmp 0)), 22, none⟩,
      ⟨some 25, (.move (.tmp 3)), 3, none⟩,
      ⟨some 26, (.indexAddr 22 (.tmp 24) (.tmp 25)), 0, none⟩,
      ⟨some 27, (.load 32 (.tmp 26)), 32, none⟩,
      ⟨some 28, (.call ⟨(.builtin .len), #[(.tmp 27)], #[32]⟩), 3, none⟩,
      ⟨some 29, (.binOp .lss 3 (.tmp 23) (.tmp 28) 3), 4, none⟩])
    (.cond (.tmp 29)
    .skip
    (.exit 2)))
    (.seq (.block 3 (.seq (.reg [] [⟨some 32, (.move (.tmp 0)), 22, none⟩,
      ⟨some 33, (.move (.tmp 3)), 3, none⟩,
      ⟨some 34, (.indexAddr 22 (.tmp 32) (.tmp 33)), 0, none⟩,
      ⟨some 35, (.load 32 (.tmp 34)), 32, none⟩,
      ⟨some 36, (.move (.tmp 4)), 3, none⟩,
      ⟨some 37, (.indexAddr 32 (.tmp 35) (.tmp 36)), 0, none⟩,
      ⟨some 38, (.load 3 (.tmp 37)), 3, none⟩,
      ⟨some 39, (.call ⟨(.value (.func 21)), #[(.tmp 38), (.const (.int .i64 0)), (.const (.int .i64 5))], #[3, 3, 3]⟩), 4, none⟩,
      ⟨some 40, (.unOp .not 4 (.tmp 39)), 4, none⟩])
    (.cond (.tmp 40)
    (.seq (.reg [] [⟨some 2, (.assign (.const (.int .i64 1))), 26, none⟩])
    .ret)
    .skip)))
    (.reg [] [⟨some 30, (.move (.tmp 4)), 3, none⟩,
      ⟨some 31, (.binOp .add 3 (.tmp 30) (.const (.int .i64 1)) 3), 3, none⟩,
      ⟨some 4, (.assign (.tmp 31)), 3, none⟩]))))))))
    (.reg [] [⟨some 15, (.move (.tmp 3)), 3, none⟩,
      ⟨some 16, (.binOp .add 3 (.tmp 15) (.const (.int .i64 1)) 3), 3, none⟩,
      ⟨some 3, (.assign (.tmp 16)), 3, none⟩]))))))
    (.seq (.reg [] [⟨some 41, (.move (.tmp 0)), 22, none⟩,
      ⟨some 42, (.call ⟨(.value (.func 37)), #[(.tmp 41)], #[22]⟩), 32, none⟩,
      ⟨some 5, (.assign (.tmp 42)), 32, none⟩])
    (.seq (.seq (.reg [] [⟨some 6, (.assign (.const (.int .i64 0))), 3, none⟩])
    (.block 4 (.loop (.seq (.seq (.reg [] [⟨some 43, (.move (.tmp 6)), 3, none⟩,
      ⟨some 44, (.move (.tmp 5)), 32, none⟩,
      ⟨some 45, (.call ⟨(.builtin .len), #[(.tmp 44)], #[32]⟩), 3, none⟩,
      ⟨some 46, (.binOp .lss 3 (.tmp 43) (.tmp 45) 3), 4, none⟩])
    (.cond (.tmp 46)
    .skip
    (.exit 4)))
    (.seq (.block 5 (.seq (.draw [] [⟨some 49, (.move (.tmp 5)), 32, none⟩,
      ⟨some 50, (.move (.tmp 6)), 3, none⟩,
      ⟨some 51, (.slice 32 (.tmp 49) none (some (.tmp 50)) none), 32, none⟩,
      ⟨some 52, (.move (.tmp 5)), 32, none⟩,
      ⟨some 53, (.move (.tmp 6)), 3, none⟩,
      ⟨some 54, (.indexAddr 32 (.tmp 52) (.tmp 53)), 0, none⟩,
      ⟨some 55, (.load 3 (.tmp 54)), 3, none⟩,
      ⟨some 56, (.call ⟨(.value (.func 38)), #[(.tmp 51), (.tmp 55)], #[32, 3]⟩), 4, none⟩] [(0, 1), (0, 3), (1, 3), (2, 3), (0, 4), (1, 4), (2, 4), (3, 4), (0, 5), (1, 5), (2, 5), (0, 6), (1, 6), (2, 6)])
    (.cond (.tmp 56)
    (.seq (.reg [] [⟨some 2, (.assign (.const (.int .i64 5))), 26, none⟩])
    .ret)
    .skip)))
    (.reg [] [⟨some 47, (.move (.tmp 6)), 3, none⟩,
      ⟨some 48, (.binOp .add 3 (.tmp 47) (.const (.int .i64 1)) 3), 3, none⟩,
      ⟨some 6, (.assign (.tmp 48)), 3, none⟩]))))))
    (.seq (.reg [] [⟨some 2, (.assign (.const (.int .i64 0))), 26, none⟩])
    .ret))))))
theorem C20 {args : List AV} {r : AV} (hn : args.length ≤ 57) (h : vc Tryz.prog T [] A20 (Fin T [(.tmp 2)] r) ⟨envOf 0 args, []⟩) : CallP Tryz.prog 20 args r :=
  callP_of tok mixed Tryz.func20 (by kernel_rfl) (by kernel_rfl) (by kernel_rfl : Tryz.f20.ntmps = 57) (by kernel_rfl : Tryz.f20.body.bind (strip 57 (fun _ => [])) = some A20) hn h
def A6 : ACode :=
  (.seq (.reg [] [⟨some 2, (.assign (.const (.slice none 0 0))), 22, none⟩])
    (.seq (.reg [] [⟨some 3, (.assign (.const (.slice none 0 0))), 22, none⟩])
    (.seq (.seq (.reg [] [⟨some 4, (.assign (.const (.int .i64 0))), 3, none⟩])
    (.block 0 (.loop (.seq (.seq (.reg [] [⟨some 5, (.move (.tmp 4)), 3, none⟩,
      ⟨some 6, (.move (.tmp 0)), 22, none⟩,
      ⟨some 7, (.call ⟨(.builtin .len), #[(.tmp 6)], #[22]⟩), 3, none⟩,
      ⟨some 8, (.binOp .lss 3 (.tmp 5) (.tmp 7) 3), 4, none⟩])
    (.cond (.tmp 8)
    .skip
    (.exit 0)))
    (.seq (.block 1 (.reg [] [⟨some 11, (.move (.tmp 3)), 22, none⟩,
      ⟨some 12, (.buildSlice 32 0 #[]), 32, none⟩,
      ⟨some 13, (.move (.tmp 0)), 22, none⟩,
      ⟨some 14, (.move (.tmp 4)), 3, none⟩,
      ⟨some 15, (.indexAddr 22 (.tmp 13) (.tmp 14)), 0, none⟩,
      ⟨some 16, (.load 32 (.tmp 15)), 32, none⟩,
      ⟨some 17, (.call ⟨(.builtin .append), #[(.tmp 12), (.tmp 16)], #[32, 32]⟩), 32, none⟩,
      ⟨some 18, (.buildSlice 22 1 #[(0, (.tmp 17))]), 22, none⟩,
      ⟨some 19, (.call ⟨(.builtin .append), #[(.tmp 11), (.tmp 18)], #[22, 22]⟩), 22, none⟩,
      ⟨some 3, (.assign (.tmp 19)), 22, none⟩]))
    (.reg [] [⟨some 9, (.move (.tmp 4)), 3, none⟩,
      ⟨some 10, (.binOp .add 3 (.tmp 9) (.const (.int .i64 1)) 3), 3, none⟩,
      ⟨some 4, (.assign (.tmp 10)), 3, none⟩]))))))
    (.seq (.reg [] [⟨some 20, (.move (.tmp 3)), 22, none⟩,
      ⟨some 2, (.assign (.tmp 20)), 22, none⟩])
    .ret))))
theorem CO6 {args : List AV} {sz : Nat} {els : List AV} (hn : args.length ≤ 21) (h : vc Tryz.prog T [] A6 (FinO [(.tmp 2)] sz els) ⟨envOf 0 args, []⟩) : CallO Tryz.prog 6 args sz els :=
  callO_of tok mixed Tryz.func6 (by kernel_rfl) (by kernel_rfl) (by kernel_rfl : Tryz.f6.ntmps = 21) (by kernel_rfl : Tryz.f6.body.bind (strip 21 (fun _ => [])) = some A6) hn h
def A8 : ACode :=
  (.seq (.reg [] [⟨some 6, (.assign (.const (.slice none 0 0))), 22, none⟩,
      ⟨some 7, (.assign (.const (.int .i64 0))), 26, none⟩])
    (.seq (.seq (.reg [] [⟨some 11, (.move (.tmp 0)), 22, none⟩,
      ⟨some 12, (.call ⟨(.value (.func 20)), #[(.tmp 11)], #[22]⟩), 26, none⟩,
      ⟨some 8, (.assign (.tmp 12)), 26, none⟩])
    (.seq (.reg [] [⟨some 13, (.move (.tmp 8)), 26, none⟩,
      ⟨some 14, (.binOp .neq 26 (.tmp 13) (.const (.int .i64 0)) 26), 4, none⟩])
    (.cond (.tmp 14)
    (.seq (.reg [] [⟨some 15, (.move (.tmp 8)), 26, none⟩,
      ⟨some 6, (.assign (.const (.slice none 0 0))), 22, none⟩,
      ⟨some 7, (.assign (.tmp 15)), 26, none⟩])
    .ret)
    .skip)))
    (.seq (.seq (.reg [] [⟨some 16, (.move (.tmp 1)), 3, none⟩,
      ⟨some 17, (.move (.tmp 0)), 22, none⟩,
      ⟨some 18, (.call ⟨(.builtin .len), #[(.tmp 17)], #[22]⟩), 3, none⟩,
      ⟨some 19, (.binOp .sub 3 (.tmp 18) (.const (.int .i64 1)) 3), 3, none⟩,
      ⟨some 20, (.call ⟨(.value (.func 21)), #[(.tmp 16), (.const (.int .i64 0)), (.tmp 19)], #[3, 3, 3]⟩), 4, none⟩,
      ⟨some 21, (.unOp .not 4 (.tmp 20)), 4, none⟩])
    (.cond (.tmp 21)
    (.seq (.reg [] [⟨some 6, (.assign (.const (.slice none 0 0))), 22, none⟩,
      ⟨some 7, (.assign (.const (.int .i64 4))), 26, none⟩])
    .ret)
    .skip))
    (.seq (.seq (.reg [] [⟨some 22, (.move (.tmp 2)), 3, none⟩,
      ⟨some 23, (.move (.tmp 0)), 22, none⟩,
      ⟨some 24, (.move (.tmp 1)), 3, none⟩,
      ⟨some 25, (.indexAddr 22 (.tmp 23) (.tmp 24)), 0, none⟩,
      ⟨some 26, (.load 32 (.tmp 25)), 32, none⟩,
      ⟨some 27, (.call ⟨(.builtin .len), #[(.tmp 26)], #[32]⟩), 3, none⟩,
      ⟨some 28, (.binOp .sub 3 (.tmp 27) (.const (.int .i64 1)) 3), 3, none⟩,
      ⟨some 29, (.call ⟨(.value (.func 21)), #[(.tmp 22), (.const (.int .i64 1)), (.tmp 28)], #[3, 3, 3]⟩), 4, none⟩,
      ⟨some 30, (.unOp .not 4 (.tmp 29)), 4, none⟩])
    (.cond (.tmp 30)
    (.seq (.reg [] [⟨some 6, (.assign (.const (.slice none 0 0))), 22, none⟩,
      ⟨some 7, (.assign (.const (.int .i64 1))), 26, none⟩])
    .ret)
    .skip))
    (.seq (.seq (.reg [] [⟨some 31, (.move (.tmp 0)), 22, none⟩,
      ⟨some 32, (.call ⟨(.builtin .len), #[(.tmp 31)], #[22]⟩), 3, none⟩,
      ⟨some 33, (.binOp .eql 3 (.tmp 32) (.const (.int .i64 6)) 3), 4, none⟩])
    (.cond (.tmp 33)
    (.seq (.reg [] [⟨some 6, (.assign (.const (.slice none 0 0))), 22, none⟩,
      ⟨some 7, (.assign (.const (.int .i64 3))), 26, none⟩])
    .ret)
    .skip))
    (.seq (.reg [] [⟨some 9, (.assign (.const (.slice none 0 0))), 22, none⟩])
    (.seq (.seq (.reg [] [⟨some 10, (.assign (.const (.int .i64 0))), 3, none⟩])
    (.block 0 (.loop (.seq (.seq (.reg [] [⟨some 34, (.move (.tmp 10)), 3, none⟩,
      ⟨some 35, (.move (.tmp 0)), 22, none⟩,
      ⟨some 36, (.call ⟨(.builtin .len), #[(.tmp 35)], #[22]⟩), 3, none⟩,
      ⟨some 37, (.binOp .lss 3 (.tmp 34) (.tmp 36) 3), 4, none⟩])
    (.cond (.tmp 37)
    .skip
    (.exit 0)))
    (.seq (.block 1 (.seq (.reg [] [⟨some 40, (.move (.tmp 10)), 3, none⟩,
      ⟨some 41, (.move (.tmp 1)), 3, none⟩,
      ⟨some 42, (.binOp .eql 3 (.tmp 40) (.tmp 41) 3), 4, none⟩])
    (.cond (.tmp 42)
    (.draw [] [⟨some 43, (.move (.tmp 9)), 22, none⟩,
      ⟨some 44, (.buildSlice 32 0 #[]), 32, none⟩,
      ⟨some 45, (.move (.tmp 0)), 22, none⟩,
      ⟨some 46, (.move (.tmp 10)), 3, none⟩,
      ⟨some 47, (.indexAddr 22 (.tmp 45) (.tmp 46)), 0, none⟩,
      ⟨some 48, (.load 32 (.tmp 47)), 32, none⟩,
      ⟨some 49, (.move (.tmp 2)), 3, none⟩,
      ⟨some 50, (.slice 32 (.tmp 48) none (some (.tmp 49)) none), 32, none⟩,
      ⟨some 51, (.call ⟨(.builtin .append), #[(.tmp 44), (.tmp 50)], #[32, 32]⟩), 32, none⟩,
      ⟨some 52, (.buildSlice 32 0 #[]), 32, none⟩,
      ⟨some 53, (.move (.tmp 0)), 22, none⟩,
      ⟨some 54, (.move (.tmp 10)), 3, none⟩,
      ⟨some 55, (.indexAddr 22 (.tmp 53) (.tmp 54)), 0, none⟩,
      ⟨some 56, (.load 32 (.tmp 55)), 32, none⟩,
      ⟨some 57, (.move (.tmp 2)), 3, none⟩,
      ⟨some 58, (.slice 32 (.tmp 56) (some (.tmp 57)) none none), 32, none⟩,
      ⟨some 59, (.call ⟨(.builtin .append), #[(.tmp 52), (.tmp 58)], #[32, 32]⟩), 32, none⟩,
      ⟨some 60, (.buildSlice 22 2 #[(0, (.tmp 51)), (1, (.tmp 59))]), 22, none⟩,
      ⟨some 61, (.call ⟨(.builtin .append), #[(.tmp 43), (.tmp 60)], #[22, 22]⟩), 22, none⟩,
      ⟨some 9, (.assign (.tmp 61)), 22, none⟩] [(0, 1), (0, 2), (1, 2), (0, 3), (1, 3), (2, 3), (0, 4), (1, 4), (0, 5), (1, 5), (0, 6), (1, 6), (2, 6), (3, 6), (4, 6), (5, 6), (0, 7), (1, 7), (0, 8), (0, 9), (1, 9), (2, 9), (3, 9), (4, 9), (5, 9), (6, 9), (7, 9), (8, 9), (0, 10), (1, 10), (2, 10), (3, 10), (4, 10), (5, 10), (6, 10), (7, 10), (8, 10), (9, 10), (0, 11), (1, 11), (2, 11), (3, 11), (4, 11), (5, 11), (6, 11), (7, 11), (8, 11), (9, 11), (10, 11), (0, 12), (1, 12), (2, 12), (3, 12), (4, 12), (5, 12), (6, 12), (7, 12), (8, 12), (9, 12), (0, 13), (1, 13), (2, 13), (3, 13), (4, 13), (5, 13), (6, 13), (7, 13), (8, 13), (9, 13), (0, 14), (1, 14), (2, 14), (3, 14), (4, 14), (5, 14), (6, 14), (7, 14), (8, 14), (9, 14), (10, 14), (11, 14), (12, 14), (13, 14), (0, 15), (1, 15), (2, 15), (3, 15), (4, 15), (5, 15), (6, 15), (7, 15), (8, 15), (9, 15), (0, 16), (0, 17)])
    (.reg [] [⟨some 62, (.move (.tmp 9)), 22, none⟩,
      ⟨some 63, (.buildSlice 32 0 #[]), 32, none⟩,
      ⟨some 64, (.move (.tmp 0)), 22, none⟩,
      ⟨some 65, (.move (.tmp 10)), 3, none⟩,
      ⟨some 66, (.indexAddr 22 (.tmp 64) (.tmp 65)), 0, none⟩,
      ⟨some 67, (.load 32 (.tmp 66)), 32, none⟩,
      ⟨some 68, (.call ⟨(.builtin .append), #[(.tmp 63), (.tmp 67)], #[32, 32]⟩), 32, none⟩,
      ⟨some 69, (.buildSlice 22 1 #[(0, (.tmp 68))]), 22, none⟩,
      ⟨some 70, (.call ⟨(.builtin .append), #[(.tmp 62), (.tmp 69)], #[22, 22]⟩), 22, none⟩,
      ⟨some 9, (.assign (.tmp 70)), 22, none⟩]))))
    (.reg [] [⟨some 38, (.move (.tmp 10)), 3, none⟩,
      ⟨some 39, (.binOp .add 3 (.tmp 38) (.const (.int .i64 1)) 3), 3, none⟩,
      ⟨some 10, (.assign (.tmp 39)), 3, none⟩]))))))
    (.seq (.reg [] [⟨some 71, (.move (.tmp 9)), 22, none⟩,
      ⟨some 6, (.assign (.tmp 71)), 22, none⟩,
      ⟨some 7, (.assign (.const (.int .i64 0))), 26, none⟩])
    .ret))))))))
theorem C8 {args : List AV} {r : AV} (hn : args.length ≤ 72) (h : vc Tryz.prog T [] A8 (Fin T [(.tmp 6), (.tmp 7)] r) ⟨envOf 0 args, []⟩) : CallP Tryz.prog 8 args r :=
  callP_of tok mixed Tryz.func8 (by kernel_rfl) (by kernel_rfl) (by kernel_rfl : Tryz.f8.ntmps = 72) (by kernel_rfl : Tryz.f8.body.bind (strip 72 (fun _ => [])) = some A8) hn h

end Go.Proofs.YtphkchjhghdhiaaGreat
end

section
/- Contracts: which tables, families and orders are right. -/
namespace Go.Proofs.YtphkchjhghdhiaaGreat
open Go.Abs Go
set_option maxRecDepth 20000
set_option maxHeartbeats 2000000
attribute [local irreducible] PreK CondK CallK CallG CallX LoopK
attribute [simp] T_59 T_61 T_62 T_56 T_57 T_73 T_74
attribute [local simp] avsEq avEq akind teq vkind vEq

@[simp] def tabV (t : Tab) : AV := .seq 1 (t.map ints) false
/-- Lists that are no longer than a statement takes. -/
structure Sm (t : Tab) : Prop where
  num : t.length ≤ 50
  row : ∀ r ∈ t, r.length ≤ 100
theorem Sm.el {t : Tab} (h : Sm t) (i : Nat) : (el t i).length ≤ 100 := by
  by_cases hi : i < t.length
  · exact h.row _ (el_mem_of t i hi)
  · unfold Go.Abs.el
    rw [List.getD_eq_getElem?_getD, List.getElem?_eq_none (by omega)]; simp [default]
theorem sbig {n : Nat} (h : n ≤ 1000) : n ≤ big := Nat.le_trans h (by decide)
theorem swithin_c (n lo hi : Int) : CallP Tryz.prog 16 [iv n, iv lo, iv hi] (bv (decide (lo ≤ n) && decide (n ≤ hi))) := by
  refine C16 (by simp) ?_
  simp [A16]
theorem notS_c (n : Int) : CallP Tryz.prog 30 [iv n] (bv (!okS n)) := by
  refine C30 (by simp) ?_
  simp [A30]
  refine CallX.pure (by simpa using swithin_c n 0 5) (by simp) (by simp) ?_
  simp [okS]
theorem isSet_c (l : List Int) (n : Int) (hl : l.length ≤ 1000) (hn : -1000 ≤ n ∧ n ≤ 1000) : CallP Tryz.prog 47 [ints l, iv n] (bv (setG (n - 1) none l)) := by
  refine C47 (by simp) ?_
  generalize hR : setG (n - 1) none l = R
  simp [A47]
  refine LoopK.by (fun i : Nat => ⟨[(9, iv i), (8, iv l.length), (7, ints l), (0, ints l), (1, iv n)], []⟩) (fun i => l.length - i) (fun i => i ≤ l.length ∧ setG (n - 1) (prevOf l i) (l.drop i) = R) 0 (by simpa [prevOf] using hR) (by simp) ?_
  intro i Q' ⟨hi, hc⟩ hq he hr
  try simp 
  refine CondK.intro (fun h => ?_) (fun h => ?_)
  · simp at h
    rw [drop_cons l i h, setG] at hc
    have e1 : ((i : Int) - 1).toNat = i - 1 := by omega
    have h1 : i - 1 < l.length := by omega
    have hprev : lessO (prevOf l i) (el l i) = (!(decide (0 < i) && decide (el l i ≤ el l (i - 1)))) := by
      unfold prevOf
      by_cases h0 : i = 0
      · simp [h0, lessO]
      · simp [h0, lessO, show 0 < i by omega]
        by_cases h6 : el l (i - 1) < el l i
        · simp [h6]
        · simp [h6]; omega
    rw [hprev] at hc
    try simp [e1, h1, h]
    repeat' (first
      | (refine CallX.pure (swithin_c (el l i) 0 (n - 1)) (by simp) (by simp) ?_; try simp [e1, h1, h])
      | (refine CallK.intro (swithin_c (el l i) 0 (n - 1)) (by simp) (by simp) ?_; try simp [e1, h1, h])
      | (refine CallG.intro (fun _ => swithin_c (el l i) 0 (n - 1)) (by simp) (by simp) ?_; try simp [e1, h1, h])
      | ((with_reducible refine PreK.intro ?_ ?_); (next => (first | omega | (intros; first | omega | (refine ⟨by omega, ?_⟩; repeat (first | assumption | constructor)) | assumption))); intro _; try simp [e1, h1, h])
      | fail)
    generalize decide (0 ≤ el l i) = b1 at *
    generalize decide (el l i ≤ n - 1) = b2 at *
    generalize decide (0 < i) = b3 at *
    generalize decide (el l i ≤ el l (i - 1)) = b4 at *
    refine CondK.intro (fun h4 => ?_) (fun h4 => ?_)
    · have : ((b1 && b2) && !(b3 && b4)) = false := by
        revert h4; cases b1 <;> cases b2 <;> cases b3 <;> cases b4 <;> simp
      rw [this] at hc
      simp only [Bool.false_and] at hc
      try simp 
      apply hr
      simp [hc]
    · have : ((b1 && b2) && !(b3 && b4)) = true := by
        revert h4; cases b1 <;> cases b2 <;> cases b3 <;> cases b4 <;> simp
      rw [this] at hc
      simp only [Bool.true_and] at hc
      repeat (refine PreK.intro (by first | omega | (intros; first | omega | (refine ⟨by omega, ?_⟩; simp_all; done) | (simp_all; done) | (simp_all; omega))) fun _ => ?_; (try simp ))
      exact hq (i + 1) _ ⟨by omega, by simpa [prevOf] using hc⟩ (by omega) (by simp)
  · simp at h
    rw [List.drop_eq_nil_of_le (by omega)] at hc
    simp [setG] at hc
    try simp 
    apply he
    simp [hc]
theorem ValidateFamily_c (n : Int) (f : List (List Int)) (h : Sm f) : CallP Tryz.prog 25 [iv n, tabV f] (iv (famErr n f)) := by
  refine C25 (by simp) ?_
  have hn := h.num
  generalize hR : famErr n f = R
  unfold famErr at hR
  simp [A25]
  have hw := swithin_c n 1 6
  generalize hb : (decide (1 ≤ n) && decide (n ≤ 6)) = b at hR hw
  cases b with
  | false =>
    try simp 
    repeat' (first
      | (refine CallX.pure (hw) (by simp) (by simp) ?_; try simp )
      | (refine CallK.intro (hw) (by simp) (by simp) ?_; try simp )
      | (refine CallG.intro (fun _ => hw) (by simp) (by simp) ?_; try simp )
      | ((with_reducible refine PreK.intro ?_ ?_); (next => (first | omega | (intros; first | omega | (refine ⟨by omega, ?_⟩; repeat (first | assumption | constructor)) | assumption))); intro _; try simp )
      | fail)
    refine CondK.tt ?_
    try simp 
    simpa using hR
  | true =>
    simp only [Bool.and_eq_true, decide_eq_true_eq] at hb
    simp only [Bool.not_true, Bool.false_eq_true, if_false] at hR
    try simp 
    repeat' (first
      | (refine CallX.pure (hw) (by simp) (by simp) ?_; try simp )
      | (refine CallK.intro (hw) (by simp) (by simp) ?_; try simp )
      | (refine CallG.intro (fun _ => hw) (by simp) (by simp) ?_; try simp )
      | ((with_reducible refine PreK.intro ?_ ?_); (next => (first | omega | (intros; first | omega | (refine ⟨by omega, ?_⟩; repeat (first | assumption | constructor)) | assumption))); intro _; try simp )
      | fail)
    refine CondK.ff ?_
    try simp 
    try simp 
    refine CondK.intro (fun h1 => ?_) (fun h1 => ?_)
    · simp at h1
      rw [if_pos (by omega)] at hR
      try simp 
      exact hR
    · simp at h1
      rw [if_neg (by omega)] at hR
      try simp 
      refine LoopK.by (fun i : Nat => ⟨[(15, iv i), (14, iv f.length), (13, tabV f), (0, iv n)], []⟩) (fun i => f.length - i) (fun i => i ≤ f.length ∧ (if (f.drop i).any (famBad n) = true then 1 else 0) = R) 0 (by simpa using hR) (by simp) ?_
      intro i Q' ⟨hi, hc⟩ hq he hr
      try simp 
      refine CondK.intro (fun h2 => ?_) (fun h2 => ?_)
      · simp at h2
        have hel := h.el i
        rw [drop_cons f i h2, List.any_cons] at hc
        have hs := isSet_c (el f i) n (by omega) (by omega)
        unfold famBad at hc
        generalize setG (n - 1) none (el f i) = b at hs hc
        by_cases h3 : el f i = []
        · simp only [h3, decide_true, Bool.true_or, if_true] at hc
          try simp [h2, h3]
          repeat (refine PreK.intro (by first | omega | (intros; first | omega | (refine ⟨by omega, ?_⟩; simp_all; done) | (simp_all; done) | (simp_all; omega))) fun _ => ?_; (try simp [h2, h3]))
          refine CallG.intro (r := bv true) (fun hh => by cases hh) (by simp) (by simp) ?_
          try simp 
          repeat (refine PreK.intro (by first | omega | (intros; first | omega | (refine ⟨by omega, ?_⟩; simp_all; done) | (simp_all; done) | (simp_all; omega))) fun _ => ?_; (try simp ))
          refine CondK.tt ?_
          try simp 
          apply hr
          simp [hc]
        · have h3' : ¬ (el f i).length = 0 := fun e => h3 (List.eq_nil_of_length_eq_zero e)
          simp only [h3, decide_false, Bool.false_or] at hc
          try simp [h2, h3, h3']
          repeat' (first
            | (refine CallX.pure (hs) (by simp) (by simp) ?_; try simp [h2, h3, h3'])
            | (refine CallK.intro (hs) (by simp) (by simp) ?_; try simp [h2, h3, h3'])
            | (refine CallG.intro (fun _ => hs) (by simp) (by simp) ?_; try simp [h2, h3, h3'])
            | ((with_reducible refine PreK.intro ?_ ?_); (next => (first | omega | (intros; first | omega | (refine ⟨by omega, ?_⟩; repeat (first | assumption | constructor)) | assumption))); intro _; try simp [h2, h3, h3'])
            | fail)
          refine CondK.intro (fun h4 => ?_) (fun h4 => ?_)
          · rw [h4] at hc
            simp only [Bool.true_or, if_true] at hc
            try simp 
            apply hr
            simp [hc]
          · rw [h4] at hc
            simp only [Bool.false_or] at hc
            repeat (refine PreK.intro (by first | omega | (intros; first | omega | (refine ⟨by omega, ?_⟩; simp_all; done) | (simp_all; done) | (simp_all; omega))) fun _ => ?_; (try simp ))
            exact hq (i + 1) _ ⟨by omega, hc⟩ (by omega) (by simp)
      · simp at h2
        rw [List.drop_eq_nil_of_le (by omega)] at hc
        simp only [List.any_nil, Bool.false_eq_true, if_false] at hc
        try simp 
        apply he
        try simp 
        exact hc
end Go.Proofs.YtphkchjhghdhiaaGreat
end

section
/- Plain: classes of tables of which rows are joined, made two, renamed. -/
namespace Go.Proofs.YtphkchjhghdhiaaGreat
open Go.Abs Go

theorem cls_sub {t a : Tab} (ht : TabOK t) (ha : TabOK a) (h : ∀ r, r < a.length → ∃ q, q < t.length ∧ preT a r = preT t q) : ∀ x ∈ classesM a, x ∈ classesM t := by
  intro x hx
  obtain ⟨s, r, h1, h2, rfl⟩ := (mem_classes ha).1 hx
  obtain ⟨q, h3, h4⟩ := h r h1
  refine (mem_classes ht).2 ⟨s, q, h3, by rw [← h4]; exact h2, ?_⟩
  unfold standM segM
  rw [h4]
theorem pre_join (A B : Tab) (x y : List Int) {r : Nat} (h : r < (A ++ (x ++ y) :: B).length) : ∃ q, q < (A ++ x :: y :: B).length ∧ preT (A ++ (x ++ y) :: B) r = preT (A ++ x :: y :: B) q := by
  simp only [List.length_append, List.length_cons] at h ⊢
  unfold preT
  by_cases h1 : r < A.length
  · refine ⟨r, by omega, ?_⟩
    rw [List.take_append_of_le_length (by omega), List.take_append_of_le_length (by omega)]
  · refine ⟨r + 1, by omega, ?_⟩
    rw [List.take_append, List.take_append, List.take_of_length_le (show A.length ≤ r + 1 by omega), List.take_of_length_le (show A.length ≤ r + 1 + 1 by omega)]
    rw [show r + 1 - A.length = (r - A.length) + 1 by omega, show r + 1 + 1 - A.length = (r - A.length) + 1 + 1 by omega]
    simp
def joinM (t : Tab) (k : Nat) : Tab := t.take k ++ (el t k ++ el t (k + 1)) :: t.drop (k + 2)
theorem join_form {t : Tab} {k : Nat} (h : k + 1 < t.length) : t = t.take k ++ el t k :: el t (k + 1) :: t.drop (k + 2) := by
  conv => lhs; rw [← List.take_append_drop k t, drop_cons t k (by omega), drop_cons t (k + 1) h]
theorem join_ok {t : Tab} (h : TabOK t) {k : Nat} (hk : k + 1 < t.length) : TabOK (joinM t k) := by
  have e := join_form hk
  have hf : (joinM t k).flatten = t.flatten := by
    conv => rhs; rw [e]
    simp [joinM]
  have h2 := h.num
  refine ⟨by simp [joinM]; omega, by simp [joinM]; omega, fun r hr => ?_, by rw [hf]; exact h.val, by rw [hf]; exact h.nd⟩
  unfold joinM at hr
  rcases List.mem_append.1 hr with hr | hr
  · exact h.row r (List.mem_of_mem_take hr)
  · rcases List.mem_cons.1 hr with rfl | hr
    · have := h.row _ (el_mem_of t k (by omega))
      simp [this]
    · exact h.row r (List.mem_of_mem_drop hr)
theorem join_sub {t : Tab} (h : TabOK t) {k : Nat} (hk : k + 1 < t.length) : ∀ x ∈ classesM (joinM t k), x ∈ classesM t := by
  refine cls_sub h (join_ok h hk) fun r hr => ?_
  have := pre_join (t.take k) (t.drop (k + 2)) (el t k) (el t (k + 1)) hr
  rw [← join_form hk] at this
  exact this
def splitM (t : Tab) (k c : Nat) : Tab := t.take k ++ (el t k).take c :: (el t k).drop c :: t.drop (k + 1)
theorem split_len {t : Tab} {k c : Nat} (hk : k < t.length) : (splitM t k c).length = t.length + 1 := by
  simp [splitM]; omega
theorem el_mid {α : Type} [Inhabited α] (A B : List α) (x y : α) : el (A ++ x :: y :: B) A.length = x ∧ el (A ++ x :: y :: B) (A.length + 1) = y := by
  refine ⟨?_, ?_⟩
  · rw [el_append_right (Nat.le_refl _)]; simp [el]
  · rw [el_append_right (by omega)]; simp [el]
theorem join_split {t : Tab} {k c : Nat} (hk : k < t.length) : joinM (splitM t k c) k = t := by
  have hl : (t.take k).length = k := by rw [List.length_take]; omega
  have e1 := el_mid (t.take k) (t.drop (k + 1)) ((el t k).take c) ((el t k).drop c)
  rw [hl] at e1
  unfold joinM
  have e2 : (splitM t k c).take k = t.take k := by unfold splitM; exact List.take_left' hl
  have e3 : (splitM t k c).drop (k + 2) = t.drop (k + 1) := by
    unfold splitM
    rw [List.drop_append, hl, List.drop_of_length_le (by omega), show k + 2 - k = 2 by omega]
    simp
  rw [e2, e3]
  unfold splitM
  rw [e1.1, e1.2, List.take_append_drop, ← drop_cons t k hk, List.take_append_drop]
theorem split_ok {t : Tab} (h : TabOK t) {k c : Nat} (hk : k < t.length) (hl : t.length < 6) (h1 : 1 ≤ c) (h2 : c < (el t k).length) : TabOK (splitM t k c) := by
  have hf : (splitM t k c).flatten = t.flatten := by
    conv => rhs; rw [← List.take_append_drop k t, drop_cons t k hk]
    simp only [splitM, List.flatten_append, List.flatten_cons]
    rw [← List.append_assoc ((el t k).take c), List.take_append_drop]
  have hs := split_len (c := c) hk
  refine ⟨by omega, by omega, fun r hr => ?_, by rw [hf]; exact h.val, by rw [hf]; exact h.nd⟩
  unfold splitM at hr
  rcases List.mem_append.1 hr with hr | hr
  · exact h.row r (List.mem_of_mem_take hr)
  · rcases List.mem_cons.1 hr with rfl | hr
    · intro e
      have := congrArg List.length e
      simp only [List.length_take, List.length_nil] at this
      omega
    · rcases List.mem_cons.1 hr with rfl | hr
      · intro e
        have := congrArg List.length e
        simp only [List.length_drop, List.length_nil] at this
        omega
      · exact h.row r (List.mem_of_mem_drop hr)
theorem split_sub {t : Tab} (h : TabOK t) {k c : Nat} (hk : k < t.length) (hl : t.length < 6) (h1 : 1 ≤ c) (h2 : c < (el t k).length) : ∀ x ∈ classesM t, x ∈ classesM (splitM t k c) := by
  have := join_sub (split_ok h hk hl h1 h2) (k := k) (by rw [split_len hk]; omega)
  rwa [join_split hk] at this

/-! ### other sounds -/
def renF (to : List Int) (s : Int) : Int := el to s.toNat
theorem class_up {t : Tab} (ht : TabOK t) {x : List Int} (hx : x ∈ classesM t) : x.Pairwise (· < ·) ∧ (∀ y ∈ x, 0 ≤ y ∧ y ≤ 5) ∧ x.length ≤ 6 := by
  obtain ⟨s, r, h1, h2, rfl⟩ := (mem_classes ht).1 hx
  have h3 : ∀ y ∈ standM t s r, 0 ≤ y ∧ y ≤ 5 := fun y hy => seg_val ht (mem_sortI.1 hy)
  have h4 := sortI_lt (seg_nd ht s r)
  exact ⟨h4, h3, six_len (pairwise_lt_nodup h4) h3⟩
end Go.Proofs.YtphkchjhghdhiaaGreat
end

section
/- Plain: names sorted. -/
namespace Go.Proofs.YtphkchjhghdhiaaGreat
open Go.Abs Go

def leNB (a b : Int × Int) : Bool := decide (a.1 < b.1) || (decide (a.1 = b.1) && decide (a.2 ≤ b.2))
def sortN (l : List (Int × Int)) : List (Int × Int) := l.mergeSort leNB
theorem sortN_perm (l : List (Int × Int)) : (sortN l).Perm l := List.mergeSort_perm _ _
theorem sortN_sorted (l : List (Int × Int)) : (sortN l).Pairwise fun a b => leNB a b = true := by
  refine List.pairwise_mergeSort (le := leNB) (fun a b c h1 h2 => ?_) (fun a b => ?_) l
  · simp only [leNB, Bool.or_eq_true, Bool.and_eq_true, decide_eq_true_eq] at *; omega
  · simp only [leNB, Bool.or_eq_true, Bool.and_eq_true, decide_eq_true_eq] at *; omega
theorem leNB_anti {a b : Int × Int} (h1 : leNB a b = true) (h2 : leNB b a = true) : a = b := by
  simp only [leNB, Bool.or_eq_true, Bool.and_eq_true, decide_eq_true_eq] at *
  exact Prod.ext (by omega) (by omega)
theorem sortN_eq {l m : List (Int × Int)} (hp : l.Perm m) (hs : m.Pairwise fun a b => leNB a b = true) : sortN l = m :=
  List.Perm.eq_of_pairwise (le := fun a b : Int × Int => leNB a b = true) (fun a b _ _ h1 h2 => leNB_anti h1 h2) (sortN_sorted l) hs ((sortN_perm l).trans hp)
theorem sort_names {t : Tab} (h : TabOK t) : sortN (allM t) = namesM t :=
  sortN_eq (names_perm h) ((namesM_sorted t).imp fun {a b} h => by
    unfold ltN at h
    simp only [leNB, Bool.or_eq_true, Bool.and_eq_true, decide_eq_true_eq]
    omega)
theorem flat_le (t : Tab) (h : ∀ r ∈ t, r.length ≤ 100) : t.flatten.length ≤ t.length * 100 := by
  induction t with
  | nil => simp
  | cons r t ih =>
    have h1 := h r (by simp)
    have h2 := ih fun x hx => h x (by simp [hx])
    simp only [List.flatten_cons, List.length_append, List.length_cons, Nat.succ_mul]
    omega
theorem names_num {t : Tab} (h : TabOK t) : (namesM t).length ≤ 36 := by
  have h1 := flat_len (namesS t) 6 six fun s _ => by
    unfold namesS rangeP
    have := h.num
    split
    · simp; omega
    · simp
  simpa [namesM, six] using h1
theorem any_contains (l : List Int) (n : Int) : (l.any fun x => decide (n = x)) = l.contains n := by
  rw [Bool.eq_iff_iff, List.any_eq_true, List.contains_iff_mem]
  constructor
  · rintro ⟨x, hx, e⟩
    simp only [decide_eq_true_eq] at e
    rw [e]; exact hx
  · intro h
    exact ⟨n, h, by simp⟩
theorem el_ids {n i : Nat} (h : i < n) : el (idsN n) i = (i : Int) := by
  simp [idsN, el, List.getD_eq_getElem?_getD, h]
/-- A list without doubles loses nothing where equal neighbours are left out. -/
theorem nodup_comp (l : List Int) : (compI (sortI l)).length = l.length ↔ l.Nodup := by
  rw [diffN_comp]
  constructor
  · intro h
    have h1 : (freshL [] l).Perm l := perm_of_sub nodup_freshL (fun x hx => (mem_freshL.1 hx).1) (by unfold diffN at h; omega)
    exact h1.nodup_iff.1 nodup_freshL
  · intro h
    exact diffN_of h fun x => Iff.rfl
theorem take_nodup {l : List Int} {i : Nat} (h : (l.take i).Nodup) (hi : i < l.length) : (l.take (i + 1)).Nodup ↔ el l i ∉ l.take i := by
  rw [take_succ l i hi, List.nodup_append]
  constructor
  · rintro ⟨_, _, h3⟩ hm
    exact h3 _ hm _ (by simp) rfl
  · intro hn
    exact ⟨h, by simp, fun a ha b hb e => by simp only [List.mem_singleton] at hb; subst hb; subst e; exact hn ha⟩
end Go.Proofs.YtphkchjhghdhiaaGreat
end

section
/- The library's sort of words, over a lent box. -/
namespace Go.Proofs.YtphkchjhghdhiaaGreat
open Go.Abs Go
/-! ### the library's sort -/
section
open Go.Sort Go.Shelf
variable {P : Program} {ρ : Ren}

/-- A word and the value that reads so. -/
abbrev Cell (w : World) (Y : Nat → Prop) := { p : List Int × Value // Rep w Y Mu.none (ints p.1) p.2 }
instance {w : World} {Y : Nat → Prop} : Inhabited (Cell w Y) := ⟨⟨([], .slice none 0 0), .nil⟩⟩
def cellV {w : World} {Y : Nat → Prop} (x : Cell w Y) : Value := x.1.2
def cellC {w : World} {Y : Nat → Prop} (x y : Cell w Y) : Int := cmpW x.1.1 y.1.1
theorem cellV_one {w : World} {Y : Nat → Prop} : OneCell (cellV (w := w) (Y := Y)) := by
  intro ⟨⟨l, v⟩, h⟩
  unfold cellV
  simp only [ints] at h ⊢
  generalize l.map iv = m at h
  cases h <;> rfl
theorem cell_big {w : World} {Y : Nat → Prop} {l : List Int} {v : Value} (h : Rep w Y Mu.none (ints l) v) : l.length ≤ big := by
  simp only [ints] at h
  have e : l.length = (l.map iv).length := by simp
  rw [e]
  generalize l.map iv = m at h
  cases h with
  | nil => simp
  | seq hY hb hc hf hbig hfit hw h1 h => exact hbig
theorem cellC_lt {w : World} {Y : Nat → Prop} (x y : Cell w Y) : ltOf cellC x y = bef x.1.1 y.1.1 := by
  unfold ltOf cellC cmpW
  by_cases h : x.1.1 = y.1.1
  · rw [if_pos h, h, bef_irr]; simp
  · rw [if_neg h]
    cases bef x.1.1 y.1.1 <;> simp
theorem cell_swo {w : World} {Y : Nat → Prop} : SWO (ltOf (cellC (w := w) (Y := Y))) := by
  refine ⟨fun x => ?_, fun x y z h1 h2 => ?_, fun x y z h1 h2 => ?_⟩
  · rw [cellC_lt, bef_irr]
  · rw [cellC_lt] at h1 h2 ⊢
    exact bef_trans h1 h2
  · rw [cellC_lt] at h1 h2 ⊢
    exact bef_no_trans h2 h1
theorem grows_eq {w w' : World} (h : Grows w w') : w' = Go.Sort.grow (w.drewN (w'.drawn - w.drawn)) (w'.heap.extract w.heap.size w'.heap.size) := by
  obtain ⟨⟨h1, h2⟩, h3, h4, h5, h6⟩ := h
  cases w
  cases w'
  unfold Go.Sort.grow World.drewN
  simp only at h1 h2 h3 h4 h5 h6 ⊢
  simp only [World.mk.injEq]
  refine ⟨?_, h3, by omega, h1, h4⟩
  apply Array.ext_getElem?
  intro k
  rw [Array.getElem?_append]
  split
  · rename_i hk; exact h6 k hk
  · rename_i hk
    rw [Array.getElem?_extract]
    split
    · congr 1; omega
    · rename_i h7
      rw [Array.getElem?_eq_none (by omega)]
theorem sortWorld_other {α : Type} [Inhabited α] {enc : α → Value} {w : World} {blk off m : Nat} {dk : Array α} {os : Array Obj} {b : Nat} (hb : b < w.heap.size) (hne : b ≠ blk) : (Go.Proofs.sortWorld enc w blk off m dk os).heap[b]? = w.heap[b]? := by
  unfold Go.Proofs.sortWorld Go.Sort.grow Go.Sort.putRow Go.Sort.mapBlock Go.Sort.ahead
  simp only
  rw [Array.getElem?_append_left (by simpa using hb), Array.getElem?_modify, if_neg (Ne.symm hne)]
theorem sortWorld_at {α : Type} [Inhabited α] {enc : α → Value} {w : World} {blk off m : Nat} {dk : Array α} {os : Array Obj} {c : Array Value} {e : TypeId} {fr : Nat × Nat} (hb : w.heap[blk]? = some (.cells c e fr)) : (Go.Proofs.sortWorld enc w blk off m dk os).heap[blk]? = some (.cells (Go.Sort.putCells enc off dk c) e fr) := by
  have hlt := lt_of_heap hb
  unfold Go.Proofs.sortWorld Go.Sort.grow Go.Sort.putRow Go.Sort.mapBlock Go.Sort.ahead
  simp only
  rw [Array.getElem?_append_left (by simpa using hlt), Array.getElem?_modify, if_pos rfl, hb]
  rfl
theorem sortWorld_size {α : Type} [Inhabited α] {enc : α → Value} {w : World} {blk off m : Nat} {dk : Array α} {os : Array Obj} : w.heap.size ≤ (Go.Proofs.sortWorld enc w blk off m dk os).heap.size := by
  unfold Go.Proofs.sortWorld Go.Sort.grow Go.Sort.putRow Go.Sort.mapBlock Go.Sort.ahead
  simp
theorem putCells_getD {α : Type} [Inhabited α] {enc : α → Value} {off : Nat} {d : Array α} {c : Array Value} {k : Nat} (hk : k < c.size) : (Go.Sort.putCells enc off d c).getD k undef = if off ≤ k ∧ k < off + d.size then enc d[k - off]! else c.getD k undef := by
  unfold Go.Sort.putCells
  simp [Array.getD, hk]
/-- The library's sort of words, over a lent row. -/
theorem callL_sort (L : SlLaysF.n6 P ρ) {g : FuncId} (hg : ∀ a b : List Int, a.length ≤ big → b.length ≤ big → CallP P g [ints a, ints b] (iv (cmpW a b))) (d : List (List Int)) :
    CallL P (ρ.f 6) [] 1 (d.map ints) [.fn g [] []] (.val (.tup [])) ((sortW d).map ints) := by
  have hsl : (sortW d).length = d.length := (sortW_perm d).length_eq
  refine ⟨?_, fun w X l vs hv hsz hX hXl hh hlen hargs => ?_⟩
  · obtain ⟨nm, hn, hf⟩ := L.f6
    exact ⟨_, hf, by simpa using hn, by simp [SlBodyF.n6]⟩
  obtain ⟨v0, v1, rfl⟩ : ∃ v0 v1, vs = #[v0, v1] := by
    cases vs with
    | mk l =>
      match l, hlen with
      | [a, b], _ => exact ⟨a, b, rfl⟩
  have h0 : Rep w (Yof X (mu1 l)) (mu1 l) (.sl lid 0 0 (d.map ints).length) v0 := hargs 0 (by simp)
  have h1 : Rep w (Yof X (mu1 l)) (mu1 l) (.fn g [] []) v1 := hargs 1 (by simp)
  generalize hn : (d.map ints).length = n at h0
  simp only [List.length_map] at hn
  cases h1 with
  | @fn _ _ _ _ fs cs hs ht _ _ =>
  obtain rfl : fs = #[] := Array.eq_empty_of_size_eq_zero hs
  obtain rfl : cs = #[] := Array.eq_empty_of_size_eq_zero ht
  cases h0 with
  | slOld hm hv' =>
    simp only [mu1, if_true, Option.some.injEq] at hm
    subst hm
    omega
  | slNil hm hv' =>
    obtain rfl : d = [] := List.eq_nil_of_length_eq_zero hn
    refine (AnyF.slices_SortFunc_none (P := P) (ρ := ρ) { L with } _ 0 _ w).mono fun e w' ⟨he, hw⟩ => ?_
    subst hw
    exact ⟨_, he, Ext.refl _ _, hh, .tup rfl fun i hi => absurd hi (by simp)⟩
  | @sl _ _ _ _ _ cap loc g0 n0 hm hv' hb hc hfit hz =>
    simp only [mu1, if_true, Option.some.injEq] at hm
    subst hm
    subst hn
    obtain ⟨hbig, hh⟩ := hh
    rw [hb] at hh
    obtain ⟨c, el, hheap, hcs, hlen', hone, hrep⟩ := hh.1 (by simp)
    rw [hsz] at hfit
    simp only [Nat.zero_mul, Nat.add_zero, Nat.zero_add, Nat.mul_one, List.length_map, hsz] at hfit hlen' ⊢
    let Y : Nat → Prop := Yof X (mu1 l)
    have hY0 : Y g0 := .inr (blks_mu1.2 ⟨n0, hb⟩)
    have hYlt : ∀ b, Y b → b < w.heap.size := by
      rintro b (hx | hx)
      · exact hX b hx
      · obtain ⟨n, hn⟩ := blks_mu1.1 hx
        rw [hb] at hn
        simp only [Option.some.injEq, Prod.mk.injEq] at hn
        rw [← hn.1]
        exact lt_of_heap hheap
    have hcell : ∀ i : Fin d.length, Rep w Y Mu.none (ints d[i]) (c.getD (l.base + i) undef) := by
      intro i
      have := (hrep i (by simp)).2
      simp only [List.getD_eq_getElem?_getD, List.getElem?_map, List.getElem?_eq_getElem i.2, Option.map_some, Option.getD_some, Nat.mul_one, if_false, Bool.false_eq_true] at this
      exact this
    let arr : Array (Cell w Y) := Array.ofFn (n := d.length) fun i => ⟨(d[i], c.getD (l.base + i) undef), hcell i⟩
    have harr : arr.size = d.length := Array.size_ofFn
    have hget : ∀ i (hi : i < d.length), arr[i]! = ⟨(d[i], c.getD (l.base + i) undef), hcell ⟨i, hi⟩⟩ := by
      intro i hi
      rw [getElem!_pos arr i (by rw [harr]; exact hi)]
      exact Array.getElem_ofFn ..
    have hwords : arr.toList.map (fun x => x.1.1) = d := by
      apply List.ext_getElem
      · rw [List.length_map, Array.length_toList, harr]
      · intro i h1 h2
        rw [List.getElem_map, Array.getElem_toList, ← getElem!_pos arr i (by rw [harr]; exact h2), hget i h2]
    have hmono : ∀ {m : Nat} {dk : Array (Cell w Y)} {os : Array Obj} {a : AV} {v : Value}, Rep w Y Mu.none a v → Rep (Go.Proofs.sortWorld cellV w g0 l.base m dk os) Y Mu.none a v := by
      intro m dk os a v h
      refine h.mono (fun b hb' hlt => ⟨hb', sortWorld_other hlt ?_⟩) (Mu.later.refl _)
      rintro rfl
      exact hb' hY0
    have hkey := Any.slices_SortFunc L (cellV (w := w) (Y := Y)) cellV_one cellC cell_swo g #[] g0 l.base cap arr w ?_ ?_ ?_ (lt_of_heap hheap) ?_
    · rw [harr] at hkey
      refine hkey.mono fun e w' ⟨he, d', n, os, hp, hs, hw⟩ => ?_
      obtain ⟨hp1, _, hp2⟩ := hp
      rw [harr] at hp1
      have hd' : d'.toList.map (fun x => x.1.1) = sortW d := by
        refine order_same ?_ ?_ (sortW_order d)
        · have e1 : d'.extract 0 d.length = d' := by rw [← hp1]; exact Array.extract_size
          have e2 : arr.extract 0 d.length = arr := by rw [← harr]; exact Array.extract_size
          rw [e1, e2] at hp2
          exact ((hp2.map (fun x => x.1.1)).trans (by rw [hwords])).trans (sortW_perm d).symm
        · unfold inOrder
          rw [List.pairwise_map, List.pairwise_iff_getElem]
          intro i j hi hj hij
          have := hs i j (Nat.zero_le _) hij (by simpa [hp1] using hj)
          rw [cellC_lt, getElem!_pos d' j (by simpa using hj), getElem!_pos d' i (by simpa using hi)] at this
          simpa using this
      subst hw
      refine ⟨_, he, ⟨⟨rfl, ?_⟩, rfl, rfl, sortWorld_size, fun b hlt hno => sortWorld_other hlt ?_⟩, ⟨by simpa [hsl] using hbig, ?_⟩, .tup rfl fun i hi => absurd hi (by simp)⟩
      · exact Nat.le_add_right _ _
      · rintro rfl
        exact hno (blks_mu1.2 ⟨n0, hb⟩)
      · rw [hb]
        refine ⟨fun _ => ⟨_, el, sortWorld_at hheap, by simpa [Go.Sort.putCells] using hcs, by simpa [hsl] using hlen', fun j hj => ?_, fun i hi => ?_⟩, fun h => by cases h⟩
        · rw [putCells_getD (by omega)]
          split
          · exact cellV_one _
          · exact hone j hj
        · have hi' : i < d.length := by simpa [hsl] using hi
          have hi2 : i < d'.toList.length := by simpa [hp1] using hi'
          have e3 : (List.map ints (sortW d)).getD i .junk = ints (d'[i]!).1.1 := by
            rw [← hd', List.map_map, List.getD_eq_getElem?_getD, List.getElem?_map, List.getElem?_eq_getElem hi2, getElem!_pos d' i (by simpa using hi2)]
            simp
          rw [e3]
          have hi3 : i < d'.size := by rw [hp1]; exact hi'
          have hlt : l.base + i * 1 < c.size := by rw [hcs]; omega
          refine ⟨rfl, ?_⟩
          show Rep _ _ Mu.none _ ((Go.Sort.putCells cellV l.base d' c).getD (l.base + i * 1) undef)
          rw [putCells_getD hlt, if_pos (by omega), show l.base + i * 1 - l.base = i by omega]
          exact hmono (d'[i]!).2
    · intro args w1
      obtain ⟨fn, hf, hname, hbody⟩ := (hg [] [] (by simp) (by simp)).1
      cases hb2 : fn.body with
      | none => exact absurd hb2 hbody
      | some code => exact enters_of hf (by simpa using hname) hb2 args w1
    · intro m os dk hdk x y
      refine ((hg x.1.1 y.1.1 (cell_big x.2) (cell_big y.2)).2 _ Y _ (fun b hb' => Nat.lt_of_lt_of_le (hYlt b hb') sortWorld_size) rfl fun i hi => ?_).mono ?_
      · match i, hi with
        | 0, _ => exact hmono x.2
        | 1, _ => exact hmono y.2
      · rintro e w' ⟨v, he, hgw, hr⟩
        obtain ⟨rfl, _⟩ := hr.one
        exact ⟨he, _, _, grows_eq hgw⟩
    · intro j hj
      rw [harr] at hj
      rw [hget j hj]
      have hlt : l.base + j < c.size := by omega
      refine ⟨?_, ?_⟩
      · unfold World.cell?
        simp only [hheap]
        simp [cellV, Array.getD, hlt]
      · unfold World.frozen?
        simp [hheap]
    · rw [harr]
      simp only [List.length_map, big] at hbig
      omega
end
end Go.Proofs.YtphkchjhghdhiaaGreat
end

section
/- The library's sort of words at this program: where its functions and types stand (written by the kit's tool lay-plain), and its contract. -/
namespace Go.Proofs.YtphkchjhghdhiaaGreat
open Go.Abs Go Go.Shelf
def lsort_ren : Go.Shelf.Ren := ⟨fun | 6 => 43 | 15 => 52 | 14 => 57 | 28 => 68 | 29 => 69 | 20 => 74 | 21 => 75 | 22 => 76 | 23 => 77 | 24 => 78 | 25 => 79 | 26 => 80 | 27 => 81 | 46 => 98 | 47 => 84 | 48 => 85 | 49 => 99 | 50 => 100 | 57 => 105 | n => n, fun | 22 => 22 | 24 => 32 | 25 => 65 | 3 => 3 | 39 => 71 | 0 => 0 | 53 => 90 | 55 => 92 | 4 => 4 | 46 => 82 | 45 => 81 | 50 => 87 | 5 => 5 | 9 => 9 | 66 => 103 | 70 => 107 | 76 => 120 | 77 => 121 | n => n, fun | n => n⟩
theorem lsort : Go.Proofs.SlLaysF.n6 Tryz.prog lsort_ren := {
  mixed := by kernel_rfl
  f6 := ⟨Tryz.f43.name, by decide, Tryz.func43.trans (congrArg some (by kernel_rfl))⟩
  f14 := ⟨Tryz.f57.name, by decide, Tryz.func57.trans (congrArg some (by kernel_rfl))⟩
  f15 := Tryz.func52.trans (congrArg some (by kernel_rfl))
  f20 := ⟨Tryz.f74.name, by decide, Tryz.func74.trans (congrArg some (by kernel_rfl))⟩
  f21 := ⟨Tryz.f75.name, by decide, Tryz.func75.trans (congrArg some (by kernel_rfl))⟩
  f22 := ⟨Tryz.f76.name, by decide, Tryz.func76.trans (congrArg some (by kernel_rfl))⟩
  f23 := ⟨Tryz.f77.name, by decide, Tryz.func77.trans (congrArg some (by kernel_rfl))⟩
  f24 := ⟨Tryz.f78.name, by decide, Tryz.func78.trans (congrArg some (by kernel_rfl))⟩
  f25 := ⟨Tryz.f79.name, by decide, Tryz.func79.trans (congrArg some (by kernel_rfl))⟩
  f26 := ⟨Tryz.f80.name, by decide, Tryz.func80.trans (congrArg some (by kernel_rfl))⟩
  f27 := ⟨Tryz.f81.name, by decide, Tryz.func81.trans (congrArg some (by kernel_rfl))⟩
  f28 := Tryz.func68.trans (congrArg some (by kernel_rfl))
  f29 := Tryz.func69.trans (congrArg some (by kernel_rfl))
  f46 := ⟨Tryz.f98.name, by decide, Tryz.func98.trans (congrArg some (by kernel_rfl))⟩
  f47 := Tryz.func84.trans (congrArg some (by kernel_rfl))
  f48 := Tryz.func85.trans (congrArg some (by kernel_rfl))
  f49 := ⟨Tryz.f99.name, by decide, Tryz.func99.trans (congrArg some (by kernel_rfl))⟩
  f50 := ⟨Tryz.f100.name, by decide, Tryz.func100.trans (congrArg some (by kernel_rfl))⟩
  f57 := ⟨Tryz.f105.name, by decide, Tryz.func105.trans (congrArg some (by kernel_rfl))⟩
  t0 := Tryz.underlying0
  a0 := Tryz.isAgg0
  z0 := Tryz.sizeOf0
  v0 := Tryz.zeroValue0
  t3 := Tryz.underlying3
  a3 := Tryz.isAgg3
  z3 := Tryz.sizeOf3
  v3 := Tryz.zeroValue3
  t4 := Tryz.underlying4
  a4 := Tryz.isAgg4
  z4 := Tryz.sizeOf4
  v4 := Tryz.zeroValue4
  t5 := Tryz.underlying5
  a5 := Tryz.isAgg5
  z5 := Tryz.sizeOf5
  v5 := Tryz.zeroValue5
  t9 := Tryz.underlying9
  a9 := Tryz.isAgg9
  z9 := Tryz.sizeOf9
  v9 := Tryz.zeroValue9
  t22 := Tryz.underlying22
  a22 := Tryz.isAgg22
  z22 := Tryz.sizeOf22
  v22 := Tryz.zeroValue22
  a24 := Tryz.isAgg32
  z24 := Tryz.sizeOf32
  t25 := Tryz.underlying65
  a25 := Tryz.isAgg65
  z25 := Tryz.sizeOf65
  v25 := Tryz.zeroValue65
  t39 := Tryz.underlying71
  a39 := Tryz.isAgg71
  z39 := Tryz.sizeOf71
  v39 := Tryz.zeroValue71
  t45 := Tryz.underlying81
  a45 := Tryz.isAgg81
  z45 := Tryz.sizeOf81
  v45 := Tryz.zeroValue81
  t46 := Tryz.underlying82
  a46 := Tryz.isAgg82
  z46 := Tryz.sizeOf82
  v46 := Tryz.zeroValue82
  t50 := Tryz.underlying87
  a50 := Tryz.isAgg87
  z50 := Tryz.sizeOf87
  v50 := Tryz.zeroValue87
  t53 := Tryz.underlying90
  a53 := Tryz.isAgg90
  z53 := Tryz.sizeOf90
  v53 := Tryz.zeroValue90
  t55 := Tryz.underlying92
  a55 := Tryz.isAgg92
  z55 := Tryz.sizeOf92
  v55 := Tryz.zeroValue92
  t66 := Tryz.underlying103
  a66 := Tryz.isAgg103
  z66 := Tryz.sizeOf103
  v66 := Tryz.zeroValue103
  t70 := Tryz.underlying107
  a70 := Tryz.isAgg107
  z70 := Tryz.sizeOf107
  v70 := Tryz.zeroValue107
  t76 := Tryz.underlying120
  a76 := Tryz.isAgg120
  z76 := Tryz.sizeOf120
  v76 := Tryz.zeroValue120
  t77 := Tryz.underlying121
  a77 := Tryz.isAgg121
  z77 := Tryz.sizeOf121
  v77 := Tryz.zeroValue121 }
end Go.Proofs.YtphkchjhghdhiaaGreat
end

section
/- The library's sort of numbers, over a lent box. -/
namespace Go.Proofs.YtphkchjhghdhiaaGreat
open Go.Abs Go
section
open Go.Shelf
variable {P : Program} {ρ : Ren}
theorem callL_sortI (L : Lays.n189 P ρ) (d : List Int) : CallL P (ρ.f 189) [] 1 (d.map iv) [] (.val (.tup [])) ((sortI d).map iv) := by
  have hsl := sortI_len d
  refine ⟨?_, fun w X l vs hv hsz hX hXl hh hlen hargs => ?_⟩
  · exact ⟨_, L.f189, by simp [Body.n189], by simp [Body.n189]⟩
  obtain ⟨v0, rfl⟩ : ∃ v0, vs = #[v0] := by
    cases vs with
    | mk l =>
      match l, hlen with
      | [a], _ => exact ⟨a, rfl⟩
  have h0 : Rep w (Yof X (mu1 l)) (mu1 l) (.sl lid 0 0 (d.map iv).length) v0 := hargs 0 (by simp)
  generalize hn : (d.map iv).length = n at h0
  simp only [List.length_map] at hn
  cases h0 with
  | slOld hm hv' =>
    simp only [mu1, if_true, Option.some.injEq] at hm
    subst hm
    omega
  | slNil hm hv' =>
    obtain rfl : d = [] := List.eq_nil_of_length_eq_zero hn
    refine (Any.slices_Sort_int_none L _ 0 w).mono fun e w' ⟨he, hw⟩ => ?_
    subst hw
    exact ⟨_, he, Ext.refl _ _, by simpa [sortI] using hh, .tup rfl fun i hi => absurd hi (by simp)⟩
  | @sl _ _ _ _ _ cap loc g0 n0 hm hv' hb hc hfit hz =>
    simp only [mu1, if_true, Option.some.injEq] at hm
    subst hm
    subst hn
    obtain ⟨hbig, hh⟩ := hh
    rw [hb] at hh
    obtain ⟨c, el, hheap, hcs, hlen', hone, hrep⟩ := hh.1 (by simp)
    rw [hsz] at hfit
    simp only [Nat.zero_mul, Nat.add_zero, Nat.zero_add, Nat.mul_one, List.length_map, hsz] at hfit hlen' ⊢
    have hcell : ∀ i, i < d.length → c.getD (l.base + i) undef = .int .i64 (d[i]!) := by
      intro i hi
      have := (hrep i (by simpa using hi)).2
      simp only [List.getD_eq_getElem?_getD, List.getElem?_map, List.getElem?_eq_getElem hi, Option.map_some, Option.getD_some, Nat.mul_one, if_false, Bool.false_eq_true, elemVal] at this
      rw [getElem!_pos d i hi]
      exact this.one.1
    refine (Any.slices_Sort_int L g0 l.base cap d w (fun j hj => ?_) (lt_of_heap hheap) (by simp only [List.length_map, big] at hbig; omega)).mono fun e w' ⟨he, n, os, hw⟩ => ?_
    · have hj' : j < d.length := by simpa using hj
      have hlt : l.base + j < c.size := by omega
      have h3 := hcell j hj'
      refine ⟨?_, ?_⟩
      · unfold World.cell?
        simp only [hheap]
        simp only [Array.getD_eq_getD_getElem?, Array.getElem?_eq_getElem hlt, Option.getD_some] at h3
        simp [hlt, h3, hj']
      · unfold World.frozen?
        simp [hheap]
    · have hw2 : w' = Go.Proofs.sortWorld (Value.int .i64) w g0 l.base n (sortI d).toArray os := hw
      subst hw2
      refine ⟨_, he, ⟨⟨rfl, Nat.le_add_right _ _⟩, rfl, rfl, sortWorld_size, fun b hlt hno => sortWorld_other hlt ?_⟩, ⟨by simpa [hsl] using hbig, ?_⟩, .tup rfl fun i hi => absurd hi (by simp)⟩
      · rintro rfl
        exact hno (blks_mu1.2 ⟨n0, hb⟩)
      · rw [hb]
        refine ⟨fun _ => ⟨_, el, sortWorld_at hheap, by simpa [Go.Sort.putCells] using hcs, by simpa [hsl] using hlen', fun j hj => ?_, fun i hi => ?_⟩, fun h => by cases h⟩
        · rw [putCells_getD (by omega)]
          split
          · rfl
          · exact hone j hj
        · have hi' : i < (sortI d).length := by simpa using hi
          have hlt : l.base + i * 1 < c.size := by rw [hcs]; omega
          have e3 : (List.map iv (sortI d)).getD i .junk = iv ((sortI d)[i]!) := by
            rw [List.getD_eq_getElem?_getD, List.getElem?_map, List.getElem?_eq_getElem hi', getElem!_pos (sortI d) i hi']
            rfl
          rw [e3]
          refine ⟨rfl, ?_⟩
          show Rep _ _ Mu.none _ ((Go.Sort.putCells (Value.int .i64) l.base (sortI d).toArray c).getD (l.base + i * 1) undef)
          rw [putCells_getD hlt, if_pos (by simp; omega), show l.base + i * 1 - l.base = i by omega]
          have e4 : (sortI d).toArray[i]! = (sortI d)[i]! := by simp
          rw [e4]
          exact .raw rfl
end
end Go.Proofs.YtphkchjhghdhiaaGreat
end

section
/- The library's sort of words at this program: where its functions and types stand (written by the kit's tool lay-plain), and its contract. -/
namespace Go.Proofs.YtphkchjhghdhiaaGreat
open Go.Abs Go Go.Shelf
def lsortI_ren : Go.Shelf.Ren := ⟨fun | 189 => 31 | 125 => 52 | 257 => 51 | 128 => 68 | 129 => 69 | 294 => 59 | 295 => 60 | 296 => 61 | 297 => 62 | 298 => 63 | 299 => 64 | 216 => 65 | 300 => 66 | 301 => 67 | 328 => 83 | 329 => 84 | 330 => 85 | 331 => 86 | 332 => 87 | 215 => 82 | 343 => 101 | n => n, fun | 28 => 32 | 3 => 3 | 46 => 71 | 0 => 0 | 51 => 90 | 53 => 92 | 4 => 4 | 183 => 82 | 182 => 81 | 131 => 87 | 5 => 5 | 9 => 9 | 218 => 103 | 222 => 107 | 228 => 120 | 229 => 121 | n => n, fun | n => n⟩
theorem lsortI : Go.Proofs.Lays.n189 Tryz.prog lsortI_ren := {
  mixed := by kernel_rfl
  f125 := Tryz.func52.trans (congrArg some (by kernel_rfl))
  f128 := Tryz.func68.trans (congrArg some (by kernel_rfl))
  f129 := Tryz.func69.trans (congrArg some (by kernel_rfl))
  f189 := Tryz.func31.trans (congrArg some (by kernel_rfl))
  f215 := Tryz.func82.trans (congrArg some (by kernel_rfl))
  f216 := Tryz.func65.trans (congrArg some (by kernel_rfl))
  f257 := Tryz.func51.trans (congrArg some (by kernel_rfl))
  f294 := Tryz.func59.trans (congrArg some (by kernel_rfl))
  f295 := Tryz.func60.trans (congrArg some (by kernel_rfl))
  f296 := Tryz.func61.trans (congrArg some (by kernel_rfl))
  f297 := Tryz.func62.trans (congrArg some (by kernel_rfl))
  f298 := Tryz.func63.trans (congrArg some (by kernel_rfl))
  f299 := Tryz.func64.trans (congrArg some (by kernel_rfl))
  f300 := Tryz.func66.trans (congrArg some (by kernel_rfl))
  f301 := Tryz.func67.trans (congrArg some (by kernel_rfl))
  f328 := Tryz.func83.trans (congrArg some (by kernel_rfl))
  f329 := Tryz.func84.trans (congrArg some (by kernel_rfl))
  f330 := Tryz.func85.trans (congrArg some (by kernel_rfl))
  f331 := Tryz.func86.trans (congrArg some (by kernel_rfl))
  f332 := Tryz.func87.trans (congrArg some (by kernel_rfl))
  f343 := Tryz.func101.trans (congrArg some (by kernel_rfl))
  t0 := Tryz.underlying0
  a0 := Tryz.isAgg0
  z0 := Tryz.sizeOf0
  v0 := Tryz.zeroValue0
  t3 := Tryz.underlying3
  a3 := Tryz.isAgg3
  z3 := Tryz.sizeOf3
  v3 := Tryz.zeroValue3
  t4 := Tryz.underlying4
  a4 := Tryz.isAgg4
  z4 := Tryz.sizeOf4
  v4 := Tryz.zeroValue4
  t5 := Tryz.underlying5
  a5 := Tryz.isAgg5
  z5 := Tryz.sizeOf5
  v5 := Tryz.zeroValue5
  t9 := Tryz.underlying9
  a9 := Tryz.isAgg9
  z9 := Tryz.sizeOf9
  v9 := Tryz.zeroValue9
  t28 := Tryz.underlying32
  a28 := Tryz.isAgg32
  z28 := Tryz.sizeOf32
  v28 := Tryz.zeroValue32
  t46 := Tryz.underlying71
  a46 := Tryz.isAgg71
  z46 := Tryz.sizeOf71
  v46 := Tryz.zeroValue71
  t51 := Tryz.underlying90
  a51 := Tryz.isAgg90
  z51 := Tryz.sizeOf90
  v51 := Tryz.zeroValue90
  t53 := Tryz.underlying92
  a53 := Tryz.isAgg92
  z53 := Tryz.sizeOf92
  v53 := Tryz.zeroValue92
  t131 := Tryz.underlying87
  a131 := Tryz.isAgg87
  z131 := Tryz.sizeOf87
  v131 := Tryz.zeroValue87
  t182 := Tryz.underlying81
  a182 := Tryz.isAgg81
  z182 := Tryz.sizeOf81
  v182 := Tryz.zeroValue81
  t183 := Tryz.underlying82
  a183 := Tryz.isAgg82
  z183 := Tryz.sizeOf82
  v183 := Tryz.zeroValue82
  t218 := Tryz.underlying103
  a218 := Tryz.isAgg103
  z218 := Tryz.sizeOf103
  v218 := Tryz.zeroValue103
  t222 := Tryz.underlying107
  a222 := Tryz.isAgg107
  z222 := Tryz.sizeOf107
  v222 := Tryz.zeroValue107
  t228 := Tryz.underlying120
  a228 := Tryz.isAgg120
  z228 := Tryz.sizeOf120
  v228 := Tryz.zeroValue120
  t229 := Tryz.underlying121
  a229 := Tryz.isAgg121
  z229 := Tryz.sizeOf121
  v229 := Tryz.zeroValue121 }
end Go.Proofs.YtphkchjhghdhiaaGreat
end

section
/- The library's sort of names (structs of two numbers), over a lent box. -/
namespace Go.Proofs.YtphkchjhghdhiaaGreat
open Go.Abs Go

@[simp] def pairV (x : Int × Int) : AV := .agg [iv x.1, iv x.2]
/-- How two names compare. -/
def cmpN (a b : Int × Int) : Int := if cmpI a.1 b.1 ≠ 0 then cmpI a.1 b.1 else cmpI a.2 b.2
section
open Go.Sort Go.Shelf
variable {P : Program} {ρ : Ren}
def encN (x : Int × Int) : List Value := [.int .i64 x.1, .int .i64 x.2]
theorem cmpN_lt (a b : Int × Int) : ltOf cmpN a b = !leNB b a := by
  unfold ltOf cmpN cmpI leNB
  rw [Bool.eq_iff_iff]
  simp only [decide_eq_true_eq, Bool.not_eq_true', Bool.or_eq_false_iff, Bool.and_eq_false_iff, decide_eq_false_iff_not]
  by_cases h1 : a.1 < b.1
  · simp [h1] <;> omega
  · by_cases h2 : b.1 < a.1
    · simp [h1, h2]
    · by_cases h3 : a.2 < b.2
      · simp [h1, h2, h3] <;> omega
      · by_cases h4 : b.2 < a.2
        · simp [h1, h2, h3, h4] <;> omega
        · simp [h1, h2, h3, h4] <;> omega
theorem cmpN_swo : SWO (ltOf cmpN) := by
  refine ⟨fun x => ?_, fun x y z h1 h2 => ?_, fun x y z h1 h2 => ?_⟩
  · rw [cmpN_lt]; simp [leNB]
  · rw [cmpN_lt] at *
    simp only [leNB, Bool.not_eq_true', Bool.or_eq_false_iff, Bool.and_eq_false_iff, decide_eq_false_iff_not] at *
    omega
  · rw [cmpN_lt] at *
    simp only [leNB, Bool.not_eq_false', Bool.or_eq_true, Bool.and_eq_true, decide_eq_true_eq] at *
    omega
theorem flatN_get (d : Array (Int × Int)) (i : Nat) (h : i < d.size) : (flatK encN 2 d)[2 * i]! = .int .i64 (d[i]!).1 ∧ (flatK encN 2 d)[2 * i + 1]! = .int .i64 (d[i]!).2 := by
  refine ⟨?_, ?_⟩
  · rw [get_flatK _ _ _ _ (by omega), show 2 * i / 2 = i by omega, show 2 * i % 2 = 0 by omega]; rfl
  · rw [get_flatK _ _ _ _ (by omega), show (2 * i + 1) / 2 = i by omega, show (2 * i + 1) % 2 = 1 by omega]; rfl
theorem rep_pair {w : World} {Y : Nat → Prop} {μ : Mu} {x : Int × Int} {c : Array Value} {o : Nat} : Rep w Y μ (pairV x) (elemVal (pairV x) 2 c o) → c.getD o undef = .int .i64 x.1 ∧ c.getD (o + 1) undef = .int .i64 x.2 := by
  intro h
  simp only [pairV, elemVal] at h
  generalize hv : Value.agg (c.extract o (o + 2)) = v at h
  cases h with
  | agg hs h1 h2 =>
    cases hv
    have a0 := h2 0 (by simp)
    have a1 := h2 1 (by simp)
    have b0 := a0.one.1
    have b1 := a1.one.1
    have hsz : (c.extract o (o + 2)).size = 2 := by simpa using hs
    rw [Array.size_extract] at hsz
    have e0 : (c.extract o (o + 2)).getD 0 undef = c.getD o undef := by
      simp [Array.getD, Array.size_extract, show 0 < min (o + 2) c.size - o by omega, show o < c.size by omega]
    have e1 : (c.extract o (o + 2)).getD 1 undef = c.getD (o + 1) undef := by
      simp [Array.getD, Array.size_extract, show 1 < min (o + 2) c.size - o by omega, show o + 1 < c.size by omega]
    rw [e0] at b0
    rw [e1] at b1
    exact ⟨b0, b1⟩
theorem pair_rep {w : World} {Y : Nat → Prop} {μ : Mu} {x : Int × Int} {c : Array Value} {o : Nat} (ho : o + 2 ≤ c.size) (h0 : c.getD o undef = .int .i64 x.1) (h1 : c.getD (o + 1) undef = .int .i64 x.2) : Rep w Y μ (pairV x) (elemVal (pairV x) 2 c o) := by
  have e0 : (c.extract o (o + 2)).getD 0 undef = c.getD o undef := by
    simp [Array.getD, Array.size_extract, show 0 < min (o + 2) c.size - o by omega, show o < c.size by omega]
  have e1 : (c.extract o (o + 2)).getD 1 undef = c.getD (o + 1) undef := by
    simp [Array.getD, Array.size_extract, show 1 < min (o + 2) c.size - o by omega, show o + 1 < c.size by omega]
  refine .agg (by simp; omega) (fun i hi => ?_) (fun i hi => ?_)
  · match i, hi with
    | 0, _ => rw [e0, h0]; rfl
    | 1, _ => rw [e1, h1]; rfl
  · match i, hi with
    | 0, _ => rw [e0, h0]; exact .raw rfl
    | 1, _ => rw [e1, h1]; exact .raw rfl
theorem callL_sortN (L : SlLaysF0.n6 P ρ) (aE : ∀ w, (isAgg (ρ.t 24)).run P w = .ok true w) (zE : ∀ w, (Go.sizeOf (ρ.t 24)).run P w = .ok 2 w) {g : FuncId} (hg : ∀ a b : Int × Int, CallP P g [pairV a, pairV b] (iv (cmpN a b))) (d : List (Int × Int)) :
    CallL P (ρ.f 6) [] 2 (d.map pairV) [.fn g [] []] (.val (.tup [])) ((sortN d).map pairV) := by
  have hsl : (sortN d).length = d.length := (sortN_perm d).length_eq
  refine ⟨?_, fun w X l vs hv hsz hX hXl hh hlen hargs => ?_⟩
  · obtain ⟨nm, hn, hf⟩ := L.f6
    exact ⟨_, hf, by simpa using hn, by simp [SlBodyF.n6]⟩
  obtain ⟨v0, v1, rfl⟩ : ∃ v0 v1, vs = #[v0, v1] := by
    cases vs with
    | mk l =>
      match l, hlen with
      | [a, b], _ => exact ⟨a, b, rfl⟩
  have h0 : Rep w (Yof X (mu1 l)) (mu1 l) (.sl lid 0 0 (d.map pairV).length) v0 := hargs 0 (by simp)
  have h1 : Rep w (Yof X (mu1 l)) (mu1 l) (.fn g [] []) v1 := hargs 1 (by simp)
  generalize hn : (d.map pairV).length = n at h0
  simp only [List.length_map] at hn
  cases h1 with
  | @fn _ _ _ _ fs cs hs ht _ _ =>
  obtain rfl : fs = #[] := Array.eq_empty_of_size_eq_zero hs
  obtain rfl : cs = #[] := Array.eq_empty_of_size_eq_zero ht
  cases h0 with
  | slOld hm hv' =>
    simp only [mu1, if_true, Option.some.injEq] at hm
    subst hm
    omega
  | slNil hm hv' =>
    obtain rfl : d = [] := List.eq_nil_of_length_eq_zero hn
    refine (AnyF.slices_SortFunc_none (P := P) (ρ := ρ) { L with } _ 0 _ w).mono fun e w' ⟨he, hw⟩ => ?_
    subst hw
    exact ⟨_, he, Ext.refl _ _, by simpa [sortN] using hh, .tup rfl fun i hi => absurd hi (by simp)⟩
  | @sl _ _ _ _ _ cap loc g0 n0 hm hv' hb hc hfit hz =>
    simp only [mu1, if_true, Option.some.injEq] at hm
    subst hm
    subst hn
    obtain ⟨hbig, hh⟩ := hh
    rw [hb] at hh
    obtain ⟨c, el, hheap, hcs, hlen', hone, hrep⟩ := hh.1 (by simp)
    rw [hsz] at hfit
    simp only [Nat.zero_mul, Nat.add_zero, Nat.zero_add, List.length_map, hsz] at hfit hlen' hbig ⊢
    let Y : Nat → Prop := Yof X (mu1 l)
    have hY0 : Y g0 := .inr (blks_mu1.2 ⟨n0, hb⟩)
    have hYlt : ∀ b, Y b → b < w.heap.size := by
      rintro b (hx | hx)
      · exact hX b hx
      · obtain ⟨n, hn⟩ := blks_mu1.1 hx
        rw [hb] at hn
        simp only [Option.some.injEq, Prod.mk.injEq] at hn
        rw [← hn.1]
        exact lt_of_heap hheap
    have hcell : ∀ i, i < d.length → c.getD (l.base + i * 2) undef = .int .i64 (Go.Abs.el d i).1 ∧ c.getD (l.base + i * 2 + 1) undef = .int .i64 (Go.Abs.el d i).2 := by
      intro i hi
      have := (hrep i (by simpa using hi)).2
      have e : (List.map pairV d).getD i .junk = pairV (Go.Abs.el d i) := nth_map pairV d i hi
      rw [e] at this
      exact rep_pair this
    let arr : Array (Int × Int) := d.toArray
    have harr : arr.size = d.length := by simp [arr]
    have hget : ∀ i, i < d.length → arr[i]! = Go.Abs.el d i := by
      intro i hi
      rw [getElem!_pos arr i (by rw [harr]; exact hi), el_eq d i hi]
      simp [arr]
    have hkey := AnyQ.slices_SortFunc L 2 aE zE encN (fun _ => rfl) (fun x v hv => by simp only [encN, List.mem_cons, List.not_mem_nil, or_false] at hv; rcases hv with rfl | rfl <;> rfl) cmpN cmpN_swo g #[] g0 l.base cap arr w ?_ ?_ ?_ (lt_of_heap hheap) ?_
    · rw [harr] at hkey
      refine hkey.mono fun e w' ⟨he, d', n, os, hp, hs, hw⟩ => ?_
      obtain ⟨hp1, _, hp2⟩ := hp
      rw [harr] at hp1
      have hd' : d'.toList = sortN d := by
        symm
        refine sortN_eq ?_ ?_
        · have e1 : d'.extract 0 d.length = d' := by rw [← hp1]; exact Array.extract_size
          have e2 : arr.extract 0 d.length = arr := by rw [← harr]; exact Array.extract_size
          rw [e1, e2] at hp2
          exact hp2.symm
        · rw [List.pairwise_iff_getElem]
          intro i j hi hj hij
          have := hs i j (Nat.zero_le _) hij (by simpa [hp1] using hj)
          rw [cmpN_lt, getElem!_pos d' j (by simpa using hj), getElem!_pos d' i (by simpa using hi)] at this
          simpa using this
      have hw2 : w' = Go.Proofs.sortWorld id w g0 l.base n (flatK encN 2 d') os := hw
      subst hw2
      refine ⟨_, he, ⟨⟨rfl, ?_⟩, rfl, rfl, sortWorld_size, fun b hlt hno => sortWorld_other hlt ?_⟩, ⟨by simpa [hsl] using hbig, ?_⟩, .tup rfl fun i hi => absurd hi (by simp)⟩
      · exact Nat.le_add_right _ _
      · rintro rfl
        exact hno (blks_mu1.2 ⟨n0, hb⟩)
      · rw [hb]
        refine ⟨fun _ => ⟨_, el, sortWorld_at hheap, by simpa [Go.Sort.putCells] using hcs, by simpa [hsl] using hlen', fun j hj => ?_, fun i hi => ?_⟩, fun h => by cases h⟩
        · rw [putCells_getD (by omega)]
          split
          · rename_i hr
            rw [size_flatK, hp1] at hr
            have hq : j - l.base = 2 * ((j - l.base) / 2) ∨ j - l.base = 2 * ((j - l.base) / 2) + 1 := by omega
            have hlt : (j - l.base) / 2 < d'.size := by omega
            obtain ⟨q1, q2⟩ := flatN_get d' _ hlt
            rcases hq with e | e
            · rw [e, q1]; rfl
            · rw [e, q2]; rfl
          · exact hone j hj
        · have hi' : i < d.length := by simpa [hsl] using hi
          have hi2 : i < d'.size := by omega
          have e3 : (List.map pairV (sortN d)).getD i .junk = pairV (d'[i]!) := by
            rw [show (List.map pairV (sortN d)).getD i .junk = pairV (Go.Abs.el (sortN d) i) from nth_map pairV _ i (by omega), ← hd', el_eq _ _ (by simpa using hi2), getElem!_pos d' i hi2]
            simp
          rw [e3]
          have hlt : l.base + i * 2 + 1 < c.size := by omega
          have hlt0 : l.base + i * 2 < c.size := by omega
          refine ⟨rfl, pair_rep (by simpa [Go.Sort.putCells] using (by omega : l.base + i * 2 + 2 ≤ c.size)) ?_ ?_⟩
          · rw [putCells_getD hlt0, if_pos ⟨by omega, by rw [size_flatK]; omega⟩, show l.base + i * 2 - l.base = 2 * i by omega]
            exact (flatN_get d' i hi2).1
          · rw [putCells_getD hlt, if_pos ⟨by omega, by rw [size_flatK]; omega⟩, show l.base + i * 2 + 1 - l.base = 2 * i + 1 by omega]
            exact (flatN_get d' i hi2).2
    · intro args w1
      obtain ⟨fn, hf, hname, hbody⟩ := (hg (0, 0) (0, 0)).1
      cases hb2 : fn.body with
      | none => exact absurd hb2 hbody
      | some code => exact enters_of hf (by simpa using hname) hb2 args w1
    · intro m os dk hdk x y
      refine ((hg x y).2 _ Y _ (fun b hb' => Nat.lt_of_lt_of_le (hYlt b hb') (sortWorld_size (enc := id) (dk := flatK encN 2 dk))) rfl fun i hi => ?_).mono ?_
      · match i, hi with
        | 0, _ => exact .agg rfl (fun i hi => by match i, hi with | 0, _ => rfl | 1, _ => rfl) (fun i hi => by match i, hi with | 0, _ => exact .raw rfl | 1, _ => exact .raw rfl)
        | 1, _ => exact .agg rfl (fun i hi => by match i, hi with | 0, _ => rfl | 1, _ => rfl) (fun i hi => by match i, hi with | 0, _ => exact .raw rfl | 1, _ => exact .raw rfl)
      · rintro e w' ⟨v, he, hgw, hr⟩
        obtain ⟨rfl, _⟩ := hr.one
        exact ⟨he, _, _, grows_eq hgw⟩
    · intro j hj
      rw [size_flatK, harr] at hj
      have hlt : l.base + j < c.size := by omega
      have hq : j = 2 * (j / 2) ∨ j = 2 * (j / 2) + 1 := by omega
      have hlt2 : j / 2 < arr.size := by omega
      obtain ⟨q1, q2⟩ := flatN_get arr _ hlt2
      obtain ⟨c1, c2⟩ := hcell (j / 2) (by omega)
      have hcv : c.getD (l.base + j) undef = (flatK encN 2 arr)[j]! := by
        rcases hq with e | e
        · rw [e, q1, hget _ (by omega), ← e, show l.base + j = l.base + j / 2 * 2 by omega]; exact c1
        · rw [e, q2, hget _ (by omega), show l.base + (2 * (j / 2) + 1) = l.base + j / 2 * 2 + 1 by omega]; exact c2
      refine ⟨?_, ?_⟩
      · unfold World.cell?
        simp only [hheap]
        rw [← hcv]
        simp [Array.getD, hlt]
      · unfold World.frozen?
        simp [hheap]
    · rw [harr]
      simp only [big] at hbig
      omega
end
end Go.Proofs.YtphkchjhghdhiaaGreat
end

section
/- The library's sort of names at this program: where its functions and types stand (written by the kit's tool lay-plain), and its contract. -/
namespace Go.Proofs.YtphkchjhghdhiaaGreat
open Go.Abs Go Go.Shelf
def lsortN_ren : Go.Shelf.Ren := ⟨fun | 6 => 55 | 15 => 52 | 14 => 72 | 28 => 68 | 29 => 69 | 20 => 90 | 21 => 91 | 22 => 92 | 23 => 93 | 24 => 94 | 25 => 95 | 26 => 96 | 27 => 97 | 46 => 102 | 47 => 84 | 48 => 85 | 49 => 103 | 50 => 104 | 57 => 106 | n => n, fun | 22 => 73 | 24 => 74 | 25 => 76 | 3 => 3 | 39 => 71 | 0 => 0 | 53 => 90 | 55 => 92 | 4 => 4 | 46 => 82 | 45 => 81 | 50 => 87 | 5 => 5 | 9 => 9 | 66 => 103 | 70 => 107 | 76 => 120 | 77 => 121 | n => n, fun | n => n⟩
theorem lsortN : Go.Proofs.SlLaysF0.n6 Tryz.prog lsortN_ren := {
  mixed := by kernel_rfl
  f6 := ⟨Tryz.f55.name, by decide, Tryz.func55.trans (congrArg some (by kernel_rfl))⟩
  f14 := ⟨Tryz.f72.name, by decide, Tryz.func72.trans (congrArg some (by kernel_rfl))⟩
  f15 := Tryz.func52.trans (congrArg some (by kernel_rfl))
  f20 := ⟨Tryz.f90.name, by decide, Tryz.func90.trans (congrArg some (by kernel_rfl))⟩
  f21 := ⟨Tryz.f91.name, by decide, Tryz.func91.trans (congrArg some (by kernel_rfl))⟩
  f22 := ⟨Tryz.f92.name, by decide, Tryz.func92.trans (congrArg some (by kernel_rfl))⟩
  f23 := ⟨Tryz.f93.name, by decide, Tryz.func93.trans (congrArg some (by kernel_rfl))⟩
  f24 := ⟨Tryz.f94.name, by decide, Tryz.func94.trans (congrArg some (by kernel_rfl))⟩
  f25 := ⟨Tryz.f95.name, by decide, Tryz.func95.trans (congrArg some (by kernel_rfl))⟩
  f26 := ⟨Tryz.f96.name, by decide, Tryz.func96.trans (congrArg some (by kernel_rfl))⟩
  f27 := ⟨Tryz.f97.name, by decide, Tryz.func97.trans (congrArg some (by kernel_rfl))⟩
  f28 := Tryz.func68.trans (congrArg some (by kernel_rfl))
  f29 := Tryz.func69.trans (congrArg some (by kernel_rfl))
  f46 := ⟨Tryz.f102.name, by decide, Tryz.func102.trans (congrArg some (by kernel_rfl))⟩
  f47 := Tryz.func84.trans (congrArg some (by kernel_rfl))
  f48 := Tryz.func85.trans (congrArg some (by kernel_rfl))
  f49 := ⟨Tryz.f103.name, by decide, Tryz.func103.trans (congrArg some (by kernel_rfl))⟩
  f50 := ⟨Tryz.f104.name, by decide, Tryz.func104.trans (congrArg some (by kernel_rfl))⟩
  f57 := ⟨Tryz.f106.name, by decide, Tryz.func106.trans (congrArg some (by kernel_rfl))⟩
  t0 := Tryz.underlying0
  a0 := Tryz.isAgg0
  z0 := Tryz.sizeOf0
  v0 := Tryz.zeroValue0
  t3 := Tryz.underlying3
  a3 := Tryz.isAgg3
  z3 := Tryz.sizeOf3
  v3 := Tryz.zeroValue3
  t4 := Tryz.underlying4
  a4 := Tryz.isAgg4
  z4 := Tryz.sizeOf4
  v4 := Tryz.zeroValue4
  t5 := Tryz.underlying5
  a5 := Tryz.isAgg5
  z5 := Tryz.sizeOf5
  v5 := Tryz.zeroValue5
  t9 := Tryz.underlying9
  a9 := Tryz.isAgg9
  z9 := Tryz.sizeOf9
  v9 := Tryz.zeroValue9
  t22 := Tryz.underlying73
  a22 := Tryz.isAgg73
  z22 := Tryz.sizeOf73
  v22 := Tryz.zeroValue73
  t25 := Tryz.underlying76
  a25 := Tryz.isAgg76
  z25 := Tryz.sizeOf76
  v25 := Tryz.zeroValue76
  t39 := Tryz.underlying71
  a39 := Tryz.isAgg71
  z39 := Tryz.sizeOf71
  v39 := Tryz.zeroValue71
  t45 := Tryz.underlying81
  a45 := Tryz.isAgg81
  z45 := Tryz.sizeOf81
  v45 := Tryz.zeroValue81
  t46 := Tryz.underlying82
  a46 := Tryz.isAgg82
  z46 := Tryz.sizeOf82
  v46 := Tryz.zeroValue82
  t50 := Tryz.underlying87
  a50 := Tryz.isAgg87
  z50 := Tryz.sizeOf87
  v50 := Tryz.zeroValue87
  t53 := Tryz.underlying90
  a53 := Tryz.isAgg90
  z53 := Tryz.sizeOf90
  v53 := Tryz.zeroValue90
  t55 := Tryz.underlying92
  a55 := Tryz.isAgg92
  z55 := Tryz.sizeOf92
  v55 := Tryz.zeroValue92
  t66 := Tryz.underlying103
  a66 := Tryz.isAgg103
  z66 := Tryz.sizeOf103
  v66 := Tryz.zeroValue103
  t70 := Tryz.underlying107
  a70 := Tryz.isAgg107
  z70 := Tryz.sizeOf107
  v70 := Tryz.zeroValue107
  t76 := Tryz.underlying120
  a76 := Tryz.isAgg120
  z76 := Tryz.sizeOf120
  v76 := Tryz.zeroValue120
  t77 := Tryz.underlying121
  a77 := Tryz.isAgg121
  z77 := Tryz.sizeOf121
  v77 := Tryz.zeroValue121 }
end Go.Proofs.YtphkchjhghdhiaaGreat
end

section
/- Contracts: the library's sorts at this program. -/
namespace Go.Proofs.YtphkchjhghdhiaaGreat
open Go.Abs Go
set_option maxRecDepth 20000
set_option maxHeartbeats 2000000
attribute [local irreducible] PreK CondK CallK CallG CallX LoopK
attribute [local simp] avsEq avEq akind teq vkind vEq

theorem sortI_L (l : List Int) : CallL Tryz.prog 31 [] 1 (l.map iv) [] (.val (.tup [])) ((sortI l).map iv) := callL_sortI lsortI l
theorem sortW_L (l : List (List Int)) : CallL Tryz.prog 43 [] 1 (l.map ints) [.fn 44 [] []] (.val (.tup [])) ((sortW l).map ints) := callL_sort lsort Compare_c l
theorem or_c (a b : Int) : CallP Tryz.prog 73 [ints [a, b]] (iv (if a ≠ 0 then a else b)) := by
  refine C73 (by simp) ?_
  simp [A73]
  refine LoopK.by (ι := Nat) (fun i => ⟨[(8, iv i), (7, iv 2), (6, ints [a, b]), (3, iv 0)], []⟩) (fun i => 2 - i) (fun i => i ≤ 2 ∧ (1 ≤ i → a = 0) ∧ (2 ≤ i → b = 0)) 0 ⟨by omega, by omega, by omega⟩ (by simp) ?_
  intro i Q' ⟨hi, h1, h2⟩ hq he hr
  match i, hi with
  | 0, _ =>
    try simp 
    refine CondK.tt ?_
    try simp 
    repeat (refine PreK.intro (by first | omega | (intros; first | omega | (refine ⟨by omega, ?_⟩; simp_all; done) | (simp_all; done) | (simp_all; omega))) fun _ => ?_; (try simp ))
    refine CondK.intro (fun h3 => ?_) (fun h3 => ?_)
    · simp at h3
      try simp 
      apply hr
      simp [h3]
    · simp at h3
      repeat (refine PreK.intro (by first | omega | (intros; first | omega | (refine ⟨by omega, ?_⟩; simp_all; done) | (simp_all; done) | (simp_all; omega))) fun _ => ?_; (try simp ))
      exact hq 1 _ ⟨by omega, fun _ => h3, by omega⟩ (by omega) (by simp)
  | 1, _ =>
    have h1 := h1 (by omega)
    subst h1
    try simp 
    refine CondK.tt ?_
    try simp 
    repeat (refine PreK.intro (by first | omega | (intros; first | omega | (refine ⟨by omega, ?_⟩; simp_all; done) | (simp_all; done) | (simp_all; omega))) fun _ => ?_; (try simp ))
    refine CondK.intro (fun h3 => ?_) (fun h3 => ?_)
    · simp at h3
      try simp 
      apply hr
      simp [h3]
    · simp at h3
      repeat (refine PreK.intro (by first | omega | (intros; first | omega | (refine ⟨by omega, ?_⟩; simp_all; done) | (simp_all; done) | (simp_all; omega))) fun _ => ?_; (try simp ))
      exact hq 2 _ ⟨by omega, fun _ => rfl, fun _ => h3⟩ (by omega) (by simp)
  | 2, _ =>
    have h1 := h1 (by omega)
    have h2 := h2 (by omega)
    subst h1 h2
    try simp 
    refine CondK.ff ?_
    try simp 
    try simp 
    apply he
    try simp 
theorem labelCompare_c (a b : Int × Int) : CallP Tryz.prog 56 [pairV a, pairV b] (iv (cmpN a b)) := by
  refine C56 (by simp) ?_
  simp [A56]
  refine CallK.intro (by simpa using cmpInt_c a.1 b.1) (by simp) (by simp) ?_
  try simp 
  repeat (refine PreK.intro (by first | omega | (intros; first | omega | (refine ⟨by omega, ?_⟩; simp_all; done) | (simp_all; done) | (simp_all; omega))) fun _ => ?_; (try simp ))
  refine CallK.intro (by simpa using cmpInt_c a.2 b.2) (by simp) (by simp) ?_
  try simp 
  repeat (refine PreK.intro (by first | omega | (intros; first | omega | (refine ⟨by omega, ?_⟩; simp_all; done) | (simp_all; done) | (simp_all; omega))) fun _ => ?_; (try simp ))
  refine CallK.intro (by simpa using or_c (cmpI a.1 b.1) (cmpI a.2 b.2)) (by simp) (by simp) ?_
  try simp 
  repeat (refine PreK.intro (by first | omega | (intros; first | omega | (refine ⟨by omega, ?_⟩; simp_all; done) | (simp_all; done) | (simp_all; omega))) fun _ => ?_; (try simp ))
  simp [cmpN]
theorem sortN_L (l : List (Int × Int)) : CallL Tryz.prog 55 [] 2 (l.map pairV) [.fn 56 [] []] (.val (.tup [])) ((sortN l).map pairV) :=
  callL_sortN lsortN Tryz.isAgg74 Tryz.sizeOf74 labelCompare_c l
end Go.Proofs.YtphkchjhghdhiaaGreat
end
