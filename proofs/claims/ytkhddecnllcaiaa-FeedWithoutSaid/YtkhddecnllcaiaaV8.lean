/- Part 8 of the proof: the value layer and the contracts of the functions that the statement reaches; proved without conditions beyond those each theorem states. -/
import Derived.Shelf.SlSortCmp.Whole1
import Derived.Shelf.SlSortCmp.NoneTotal
import Derived.Test.YtkhddecnllcaiaaProg
import Derived.Test.YtkhddecnllcaiaaV6
import Derived.Test.YtkhddecnllcaiaaV7
set_option linter.unusedSimpArgs false
set_option linter.unusedVariables false

section
/- The library's sort of words, over a lent box. -/
namespace Go.Proofs.Ytkhddecnllcaiaa
open Go.Abs Go

/-! ### lists of words in order -/
/-- No later one comes before an earlier one. -/
def inOrder (l : List (List Int)) : Prop := l.Pairwise fun a b => bef b a = false
theorem order_same : ∀ {l m : List (List Int)}, l.Perm m → inOrder l → inOrder m → l = m
  | [], m, h, _, _ => by simpa using h.symm
  | x :: l, [], h, _, _ => by simp at h
  | x :: l, y :: m, h, hl, hm => by
    unfold inOrder at hl hm
    rw [List.pairwise_cons] at hl hm
    have hxy : x = y := by
      apply Classical.byContradiction
      intro hne
      have hx : x ∈ m := by
        rcases List.mem_cons.1 (h.mem_iff.1 (List.mem_cons_self)) with e | e
        · exact absurd e hne
        · exact e
      have hy : y ∈ l := by
        rcases List.mem_cons.1 (h.mem_iff.2 (List.mem_cons_self)) with e | e
        · exact absurd e.symm hne
        · exact e
      have h1 := hl.1 y hy
      have h2 := hm.1 x hx
      rcases bef_total hne with e | e
      · rw [e] at h2; cases h2
      · rw [e] at h1; cases h1
    subst hxy
    rw [order_same (List.Perm.cons_inv h) hl.2 hm.2]
def insO (w : List Int) : List (List Int) → List (List Int)
  | [] => [w]
  | x :: l => if bef x w then x :: insO w l else w :: x :: l
/-- The words in ascending order. -/
def sortW : List (List Int) → List (List Int)
  | [] => []
  | x :: l => insO x (sortW l)
theorem insO_perm (w : List Int) : ∀ l : List (List Int), (insO w l).Perm (w :: l)
  | [] => List.Perm.refl _
  | x :: l => by
    rw [insO]
    split
    · exact ((insO_perm w l).cons x).trans (List.Perm.swap w x l)
    · exact List.Perm.refl _
theorem sortW_perm : ∀ l : List (List Int), (sortW l).Perm l
  | [] => List.Perm.refl _
  | x :: l => (insO_perm x (sortW l)).trans ((sortW_perm l).cons x)
theorem bef_flip {a b : List Int} (h : bef a b = true) : bef b a = false := bef_asymm h
theorem bef_no_trans {a b c : List Int} (h : bef b a = false) (k : bef c b = false) : bef c a = false := by
  cases hc : bef c a with
  | false => rfl
  | true =>
    by_cases e1 : a = b
    · subst e1; rw [k] at hc; cases hc
    · by_cases e2 : b = c
      · subst e2; rw [h] at hc; cases hc
      · rcases bef_total e1 with e | e
        · have := bef_trans hc e
          rw [this] at k; cases k
        · rw [e] at h; cases h
theorem insO_order {w : List Int} : ∀ {l : List (List Int)}, inOrder l → inOrder (insO w l)
  | [], _ => by simp [insO, inOrder]
  | x :: l, h => by
    unfold inOrder at h
    rw [List.pairwise_cons] at h
    rw [insO]
    split
    · rename_i hb
      unfold inOrder
      rw [List.pairwise_cons]
      refine ⟨fun y hy => ?_, insO_order h.2⟩
      rcases List.mem_cons.1 ((insO_perm w l).mem_iff.1 hy) with rfl | hy
      · exact bef_flip hb
      · exact h.1 y hy
    · rename_i hb
      have hb' : bef x w = false := by simpa using hb
      unfold inOrder
      rw [List.pairwise_cons]
      refine ⟨fun y hy => ?_, by rw [List.pairwise_cons]; exact h⟩
      rcases List.mem_cons.1 hy with rfl | hy
      · exact hb'
      · exact bef_no_trans hb' (h.1 y hy)
theorem sortW_order : ∀ l : List (List Int), inOrder (sortW l)
  | [] => by simp [sortW, inOrder]
  | x :: l => insO_order (sortW_order l)

/-- How two words compare. -/
def cmpW (a b : List Int) : Int := if a = b then 0 else if bef a b then -1 else 1

/-! ### the library's sort -/
section
open Go.Sort Go.Shelf
variable {P : Program} {ρ : Ren}

/-- A word and the value that reads so. -/
abbrev Cell (w : World) (Y : Nat → Prop) := { p : List Int × Value // Rep w Y Mu.none (ints p.1) p.2 }
instance {w : World} {Y : Nat → Prop} : Inhabited (Cell w Y) := ⟨⟨([], .slice none 0 0), .nil⟩⟩
def cellV {w : World} {Y : Nat → Prop} (x : Cell w Y) : Value := x.1.2
def cellC {w : World} {Y : Nat → Prop} (x y : Cell w Y) : Int := cmpW x.1.1 y.1.1
theorem cellV_one {w : World} {Y : Nat → Prop} : OneCell (cellV (w := w) (Y := Y)) := by
  intro ⟨⟨l, v⟩, h⟩
  unfold cellV
  simp only [ints] at h ⊢
  generalize l.map iv = m at h
  cases h <;> rfl
theorem cell_big {w : World} {Y : Nat → Prop} {l : List Int} {v : Value} (h : Rep w Y Mu.none (ints l) v) : l.length ≤ big := by
  simp only [ints] at h
  have e : l.length = (l.map iv).length := by simp
  rw [e]
  generalize l.map iv = m at h
  cases h with
  | nil => simp
  | seq hY hb hc hf hbig hfit hw h1 h => exact hbig
theorem cellC_lt {w : World} {Y : Nat → Prop} (x y : Cell w Y) : ltOf cellC x y = bef x.1.1 y.1.1 := by
  unfold ltOf cellC cmpW
  by_cases h : x.1.1 = y.1.1
  · rw [if_pos h, h, bef_irr]; simp
  · rw [if_neg h]
    cases bef x.1.1 y.1.1 <;> simp
theorem cell_swo {w : World} {Y : Nat → Prop} : SWO (ltOf (cellC (w := w) (Y := Y))) := by
  refine ⟨fun x => ?_, fun x y z h1 h2 => ?_, fun x y z h1 h2 => ?_⟩
  · rw [cellC_lt, bef_irr]
  · rw [cellC_lt] at h1 h2 ⊢
    exact bef_trans h1 h2
  · rw [cellC_lt] at h1 h2 ⊢
    exact bef_no_trans h2 h1
theorem grows_eq {w w' : World} (h : Grows w w') : w' = Go.Sort.grow (w.drewN (w'.drawn - w.drawn)) (w'.heap.extract w.heap.size w'.heap.size) := by
  obtain ⟨⟨h1, h2⟩, h3, h4, h5, h6⟩ := h
  cases w
  cases w'
  unfold Go.Sort.grow World.drewN
  simp only at h1 h2 h3 h4 h5 h6 ⊢
  simp only [World.mk.injEq]
  refine ⟨?_, h3, by omega, h1, h4⟩
  apply Array.ext_getElem?
  intro k
  rw [Array.getElem?_append]
  split
  · rename_i hk; exact h6 k hk
  · rename_i hk
    rw [Array.getElem?_extract]
    split
    · congr 1; omega
    · rename_i h7
      rw [Array.getElem?_eq_none (by omega)]
theorem sortWorld_other {α : Type} [Inhabited α] {enc : α → Value} {w : World} {blk off m : Nat} {dk : Array α} {os : Array Obj} {b : Nat} (hb : b < w.heap.size) (hne : b ≠ blk) : (Go.Proofs.sortWorld enc w blk off m dk os).heap[b]? = w.heap[b]? := by
  unfold Go.Proofs.sortWorld Go.Sort.grow Go.Sort.putRow Go.Sort.mapBlock Go.Sort.ahead
  simp only
  rw [Array.getElem?_append_left (by simpa using hb), Array.getElem?_modify, if_neg (Ne.symm hne)]
theorem sortWorld_at {α : Type} [Inhabited α] {enc : α → Value} {w : World} {blk off m : Nat} {dk : Array α} {os : Array Obj} {c : Array Value} {e : TypeId} {fr : Nat × Nat} (hb : w.heap[blk]? = some (.cells c e fr)) : (Go.Proofs.sortWorld enc w blk off m dk os).heap[blk]? = some (.cells (Go.Sort.putCells enc off dk c) e fr) := by
  have hlt := lt_of_heap hb
  unfold Go.Proofs.sortWorld Go.Sort.grow Go.Sort.putRow Go.Sort.mapBlock Go.Sort.ahead
  simp only
  rw [Array.getElem?_append_left (by simpa using hlt), Array.getElem?_modify, if_pos rfl, hb]
  rfl
theorem sortWorld_size {α : Type} [Inhabited α] {enc : α → Value} {w : World} {blk off m : Nat} {dk : Array α} {os : Array Obj} : w.heap.size ≤ (Go.Proofs.sortWorld enc w blk off m dk os).heap.size := by
  unfold Go.Proofs.sortWorld Go.Sort.grow Go.Sort.putRow Go.Sort.mapBlock Go.Sort.ahead
  simp
theorem putCells_getD {α : Type} [Inhabited α] {enc : α → Value} {off : Nat} {d : Array α} {c : Array Value} {k : Nat} (hk : k < c.size) : (Go.Sort.putCells enc off d c).getD k undef = if off ≤ k ∧ k < off + d.size then enc d[k - off]! else c.getD k undef := by
  unfold Go.Sort.putCells
  simp [Array.getD, hk]
/-- The library's sort of words, over a lent row. -/
theorem callL_sort (L : SlLaysF.n6 P ρ) {g : FuncId} (hg : ∀ a b : List Int, a.length ≤ big → b.length ≤ big → CallP P g [ints a, ints b] (iv (cmpW a b))) (d : List (List Int)) :
    CallL P (ρ.f 6) [] 1 (d.map ints) [.fn g [] []] (.val (.tup [])) ((sortW d).map ints) := by
  have hsl : (sortW d).length = d.length := (sortW_perm d).length_eq
  refine ⟨?_, fun w X l vs hv hsz hX hXl hh hlen hargs => ?_⟩
  · obtain ⟨nm, hn, hf⟩ := L.f6
    exact ⟨_, hf, by simpa using hn, by simp [SlBodyF.n6]⟩
  obtain ⟨v0, v1, rfl⟩ : ∃ v0 v1, vs = #[v0, v1] := by
    cases vs with
    | mk l =>
      match l, hlen with
      | [a, b], _ => exact ⟨a, b, rfl⟩
  have h0 : Rep w (Yof X (mu1 l)) (mu1 l) (.sl lid 0 0 (d.map ints).length) v0 := hargs 0 (by simp)
  have h1 : Rep w (Yof X (mu1 l)) (mu1 l) (.fn g [] []) v1 := hargs 1 (by simp)
  generalize hn : (d.map ints).length = n at h0
  simp only [List.length_map] at hn
  cases h1 with
  | @fn _ _ _ _ fs cs hs ht _ _ =>
  obtain rfl : fs = #[] := Array.eq_empty_of_size_eq_zero hs
  obtain rfl : cs = #[] := Array.eq_empty_of_size_eq_zero ht
  cases h0 with
  | slOld hm hv' =>
    simp only [mu1, if_true, Option.some.injEq] at hm
    subst hm
    omega
  | slNil hm hv' =>
    obtain rfl : d = [] := List.eq_nil_of_length_eq_zero hn
    refine (AnyF.slices_SortFunc_none (P := P) (ρ := ρ) { L with } _ 0 _ w).mono fun e w' ⟨he, hw⟩ => ?_
    subst hw
    exact ⟨_, he, Ext.refl _ _, hh, .tup rfl fun i hi => absurd hi (by simp)⟩
  | @sl _ _ _ _ _ cap loc g0 n0 hm hv' hb hc hfit hz =>
    simp only [mu1, if_true, Option.some.injEq] at hm
    subst hm
    subst hn
    obtain ⟨hbig, hh⟩ := hh
    rw [hb] at hh
    obtain ⟨c, el, hheap, hcs, hlen', hone, hrep⟩ := hh.1 (by simp)
    rw [hsz] at hfit
    simp only [Nat.zero_mul, Nat.add_zero, Nat.zero_add, Nat.mul_one, List.length_map, hsz] at hfit hlen' ⊢
    let Y : Nat → Prop := Yof X (mu1 l)
    have hY0 : Y g0 := .inr (blks_mu1.2 ⟨n0, hb⟩)
    have hYlt : ∀ b, Y b → b < w.heap.size := by
      rintro b (hx | hx)
      · exact hX b hx
      · obtain ⟨n, hn⟩ := blks_mu1.1 hx
        rw [hb] at hn
        simp only [Option.some.injEq, Prod.mk.injEq] at hn
        rw [← hn.1]
        exact lt_of_heap hheap
    have hcell : ∀ i : Fin d.length, Rep w Y Mu.none (ints d[i]) (c.getD (l.base + i) undef) := by
      intro i
      have := (hrep i (by simp)).2
      simp only [List.getD_eq_getElem?_getD, List.getElem?_map, List.getElem?_eq_getElem i.2, Option.map_some, Option.getD_some, Nat.mul_one, if_false, Bool.false_eq_true] at this
      exact this
    let arr : Array (Cell w Y) := Array.ofFn (n := d.length) fun i => ⟨(d[i], c.getD (l.base + i) undef), hcell i⟩
    have harr : arr.size = d.length := Array.size_ofFn
    have hget : ∀ i (hi : i < d.length), arr[i]! = ⟨(d[i], c.getD (l.base + i) undef), hcell ⟨i, hi⟩⟩ := by
      intro i hi
      rw [getElem!_pos arr i (by rw [harr]; exact hi)]
      exact Array.getElem_ofFn ..
    have hwords : arr.toList.map (fun x => x.1.1) = d := by
      apply List.ext_getElem
      · rw [List.length_map, Array.length_toList, harr]
      · intro i h1 h2
        rw [List.getElem_map, Array.getElem_toList, ← getElem!_pos arr i (by rw [harr]; exact h2), hget i h2]
    have hmono : ∀ {m : Nat} {dk : Array (Cell w Y)} {os : Array Obj} {a : AV} {v : Value}, Rep w Y Mu.none a v → Rep (Go.Proofs.sortWorld cellV w g0 l.base m dk os) Y Mu.none a v := by
      intro m dk os a v h
      refine h.mono (fun b hb' hlt => ⟨hb', sortWorld_other hlt ?_⟩) (Mu.later.refl _)
      rintro rfl
      exact hb' hY0
    have hkey := Any.slices_SortFunc L (cellV (w := w) (Y := Y)) cellV_one cellC cell_swo g #[] g0 l.base cap arr w ?_ ?_ ?_ (lt_of_heap hheap) ?_
    · rw [harr] at hkey
      refine hkey.mono fun e w' ⟨he, d', n, os, hp, hs, hw⟩ => ?_
      obtain ⟨hp1, _, hp2⟩ := hp
      rw [harr] at hp1
      have hd' : d'.toList.map (fun x => x.1.1) = sortW d := by
        refine order_same ?_ ?_ (sortW_order d)
        · have e1 : d'.extract 0 d.length = d' := by rw [← hp1]; exact Array.extract_size
          have e2 : arr.extract 0 d.length = arr := by rw [← harr]; exact Array.extract_size
          rw [e1, e2] at hp2
          exact ((hp2.map (fun x => x.1.1)).trans (by rw [hwords])).trans (sortW_perm d).symm
        · unfold inOrder
          rw [List.pairwise_map, List.pairwise_iff_getElem]
          intro i j hi hj hij
          have := hs i j (Nat.zero_le _) hij (by simpa [hp1] using hj)
          rw [cellC_lt, getElem!_pos d' j (by simpa using hj), getElem!_pos d' i (by simpa using hi)] at this
          simpa using this
      subst hw
      refine ⟨_, he, ⟨⟨rfl, ?_⟩, rfl, rfl, sortWorld_size, fun b hlt hno => sortWorld_other hlt ?_⟩, ⟨by simpa [hsl] using hbig, ?_⟩, .tup rfl fun i hi => absurd hi (by simp)⟩
      · exact Nat.le_add_right _ _
      · rintro rfl
        exact hno (blks_mu1.2 ⟨n0, hb⟩)
      · rw [hb]
        refine ⟨fun _ => ⟨_, el, sortWorld_at hheap, by simpa [Go.Sort.putCells] using hcs, by simpa [hsl] using hlen', fun j hj => ?_, fun i hi => ?_⟩, fun h => by cases h⟩
        · rw [putCells_getD (by omega)]
          split
          · exact cellV_one _
          · exact hone j hj
        · have hi' : i < d.length := by simpa [hsl] using hi
          have hi2 : i < d'.toList.length := by simpa [hp1] using hi'
          have e3 : (List.map ints (sortW d)).getD i .junk = ints (d'[i]!).1.1 := by
            rw [← hd', List.map_map, List.getD_eq_getElem?_getD, List.getElem?_map, List.getElem?_eq_getElem hi2, getElem!_pos d' i (by simpa using hi2)]
            simp
          rw [e3]
          have hi3 : i < d'.size := by rw [hp1]; exact hi'
          have hlt : l.base + i * 1 < c.size := by rw [hcs]; omega
          refine ⟨rfl, ?_⟩
          show Rep _ _ Mu.none _ ((Go.Sort.putCells cellV l.base d' c).getD (l.base + i * 1) undef)
          rw [putCells_getD hlt, if_pos (by omega), show l.base + i * 1 - l.base = i by omega]
          exact hmono (d'[i]!).2
    · intro args w1
      obtain ⟨fn, hf, hname, hbody⟩ := (hg [] [] (by simp) (by simp)).1
      cases hb2 : fn.body with
      | none => exact absurd hb2 hbody
      | some code => exact enters_of hf (by simpa using hname) hb2 args w1
    · intro m os dk hdk x y
      refine ((hg x.1.1 y.1.1 (cell_big x.2) (cell_big y.2)).2 _ Y _ (fun b hb' => Nat.lt_of_lt_of_le (hYlt b hb') sortWorld_size) rfl fun i hi => ?_).mono ?_
      · match i, hi with
        | 0, _ => exact hmono x.2
        | 1, _ => exact hmono y.2
      · rintro e w' ⟨v, he, hgw, hr⟩
        obtain ⟨rfl, _⟩ := hr.one
        exact ⟨he, _, _, grows_eq hgw⟩
    · intro j hj
      rw [harr] at hj
      rw [hget j hj]
      have hlt : l.base + j < c.size := by omega
      refine ⟨?_, ?_⟩
      · unfold World.cell?
        simp only [hheap]
        simp [cellV, Array.getD, hlt]
      · unfold World.frozen?
        simp [hheap]
    · rw [harr]
      simp only [List.length_map, big] at hbig
      omega
end
end Go.Proofs.Ytkhddecnllcaiaa
end

section
/- The library's sort of words at this program: where its functions and types stand (written by the kit's tool lay-plain), and its contract. -/
namespace Go.Proofs.Ytkhddecnllcaiaa
open Go.Abs Go Go.Shelf
def lsort_ren : Go.Shelf.Ren := ⟨fun | 6 => 96 | 15 => 113 | 14 => 112 | 28 => 130 | 29 => 131 | 20 => 122 | 21 => 123 | 22 => 124 | 23 => 125 | 24 => 126 | 25 => 127 | 26 => 128 | 27 => 129 | 46 => 136 | 47 => 137 | 48 => 138 | 49 => 139 | 50 => 140 | 57 => 143 | n => n, fun | 22 => 45 | 24 => 22 | 25 => 103 | 3 => 3 | 39 => 54 | 0 => 0 | 53 => 149 | 55 => 152 | 4 => 4 | 46 => 157 | 45 => 156 | 50 => 89 | 5 => 5 | 9 => 9 | 66 => 167 | 70 => 171 | 76 => 173 | 77 => 174 | n => n, fun | n => n⟩
theorem lsort : Go.Proofs.SlLaysF.n6 Try.prog lsort_ren := {
  mixed := by kernel_rfl
  f6 := ⟨Try.f96.name, by decide, Try.func96.trans (congrArg some (by kernel_rfl))⟩
  f14 := ⟨Try.f112.name, by decide, Try.func112.trans (congrArg some (by kernel_rfl))⟩
  f15 := Try.func113.trans (congrArg some (by kernel_rfl))
  f20 := ⟨Try.f122.name, by decide, Try.func122.trans (congrArg some (by kernel_rfl))⟩
  f21 := ⟨Try.f123.name, by decide, Try.func123.trans (congrArg some (by kernel_rfl))⟩
  f22 := ⟨Try.f124.name, by decide, Try.func124.trans (congrArg some (by kernel_rfl))⟩
  f23 := ⟨Try.f125.name, by decide, Try.func125.trans (congrArg some (by kernel_rfl))⟩
  f24 := ⟨Try.f126.name, by decide, Try.func126.trans (congrArg some (by kernel_rfl))⟩
  f25 := ⟨Try.f127.name, by decide, Try.func127.trans (congrArg some (by kernel_rfl))⟩
  f26 := ⟨Try.f128.name, by decide, Try.func128.trans (congrArg some (by kernel_rfl))⟩
  f27 := ⟨Try.f129.name, by decide, Try.func129.trans (congrArg some (by kernel_rfl))⟩
  f28 := Try.func130.trans (congrArg some (by kernel_rfl))
  f29 := Try.func131.trans (congrArg some (by kernel_rfl))
  f46 := ⟨Try.f136.name, by decide, Try.func136.trans (congrArg some (by kernel_rfl))⟩
  f47 := Try.func137.trans (congrArg some (by kernel_rfl))
  f48 := Try.func138.trans (congrArg some (by kernel_rfl))
  f49 := ⟨Try.f139.name, by decide, Try.func139.trans (congrArg some (by kernel_rfl))⟩
  f50 := ⟨Try.f140.name, by decide, Try.func140.trans (congrArg some (by kernel_rfl))⟩
  f57 := ⟨Try.f143.name, by decide, Try.func143.trans (congrArg some (by kernel_rfl))⟩
  t0 := Try.underlying0
  a0 := Try.isAgg0
  z0 := Try.sizeOf0
  v0 := Try.zeroValue0
  t3 := Try.underlying3
  a3 := Try.isAgg3
  z3 := Try.sizeOf3
  v3 := Try.zeroValue3
  t4 := Try.underlying4
  a4 := Try.isAgg4
  z4 := Try.sizeOf4
  v4 := Try.zeroValue4
  t5 := Try.underlying5
  a5 := Try.isAgg5
  z5 := Try.sizeOf5
  v5 := Try.zeroValue5
  t9 := Try.underlying9
  a9 := Try.isAgg9
  z9 := Try.sizeOf9
  v9 := Try.zeroValue9
  t22 := Try.underlying45
  a22 := Try.isAgg45
  z22 := Try.sizeOf45
  v22 := Try.zeroValue45
  a24 := Try.isAgg22
  z24 := Try.sizeOf22
  t25 := Try.underlying103
  a25 := Try.isAgg103
  z25 := Try.sizeOf103
  v25 := Try.zeroValue103
  t39 := Try.underlying54
  a39 := Try.isAgg54
  z39 := Try.sizeOf54
  v39 := Try.zeroValue54
  t45 := Try.underlying156
  a45 := Try.isAgg156
  z45 := Try.sizeOf156
  v45 := Try.zeroValue156
  t46 := Try.underlying157
  a46 := Try.isAgg157
  z46 := Try.sizeOf157
  v46 := Try.zeroValue157
  t50 := Try.underlying89
  a50 := Try.isAgg89
  z50 := Try.sizeOf89
  v50 := Try.zeroValue89
  t53 := Try.underlying149
  a53 := Try.isAgg149
  z53 := Try.sizeOf149
  v53 := Try.zeroValue149
  t55 := Try.underlying152
  a55 := Try.isAgg152
  z55 := Try.sizeOf152
  v55 := Try.zeroValue152
  t66 := Try.underlying167
  a66 := Try.isAgg167
  z66 := Try.sizeOf167
  v66 := Try.zeroValue167
  t70 := Try.underlying171
  a70 := Try.isAgg171
  z70 := Try.sizeOf171
  v70 := Try.zeroValue171
  t76 := Try.underlying173
  a76 := Try.isAgg173
  z76 := Try.sizeOf173
  v76 := Try.zeroValue173
  t77 := Try.underlying174
  a77 := Try.isAgg174
  z77 := Try.sizeOf174
  v77 := Try.zeroValue174 }
end Go.Proofs.Ytkhddecnllcaiaa
end

section
/- Contracts: comparing and sorting words. -/
namespace Go.Proofs.Ytkhddecnllcaiaa
open Go.Abs Go
set_option maxRecDepth 20000
set_option maxHeartbeats 2000000
attribute [local irreducible] PreK CondK CallK CallG CallX LoopK
attribute [local simp] avsEq avEq akind teq vkind vEq

theorem isNaN_c (a : Int) : CallP Try.prog 132 [iv a] (bv false) := by
  refine C132 (by simp) ?_
  simp [A132]
def cmpI (a b : Int) : Int := if a < b then -1 else if b < a then 1 else 0
theorem cmpInt_c (a b : Int) : CallP Try.prog 114 [iv a, iv b] (iv (cmpI a b)) := by
  refine C114 (by simp) ?_
  simp [A114]
  try simp 
  repeat' (first
    | (refine CallX.pure (isNaN_c a) (by simp) (by simp) ?_; try simp )
    | (refine CallK.intro (isNaN_c a) (by simp) (by simp) ?_; try simp )
    | (refine CallG.intro (fun _ => isNaN_c a) (by simp) (by simp) ?_; try simp )
    | (refine CallX.pure (isNaN_c b) (by simp) (by simp) ?_; try simp )
    | (refine CallK.intro (isNaN_c b) (by simp) (by simp) ?_; try simp )
    | (refine CallG.intro (fun _ => isNaN_c b) (by simp) (by simp) ?_; try simp )
    | ((with_reducible refine PreK.intro ?_ ?_); (next => (first | omega | (intros; first | omega | (refine ⟨by omega, ?_⟩; repeat (first | assumption | constructor)) | assumption))); intro _; try simp )
    | fail)
  refine CondK.intro (fun h1 => ?_) (fun h1 => ?_)
  · simp at h1
  · try simp 
    repeat' (first
      | ((with_reducible refine PreK.intro ?_ ?_); (next => (first | omega | (intros; first | omega | (refine ⟨by omega, ?_⟩; repeat (first | assumption | constructor)) | assumption))); intro _; try simp )
      | fail)
    refine CondK.intro (fun h2 => ?_) (fun h2 => ?_)
    · simp at h2
    · try simp 
      repeat' (first
        | ((with_reducible refine PreK.intro ?_ ?_); (next => (first | omega | (intros; first | omega | (refine ⟨by omega, ?_⟩; repeat (first | assumption | constructor)) | assumption))); intro _; try simp )
        | fail)
      refine CondK.intro (fun h3 => ?_) (fun h3 => ?_)
      · simp at h3
        simp [cmpI, h3]
      · simp at h3
        try simp 
        repeat' (first
          | ((with_reducible refine PreK.intro ?_ ?_); (next => (first | omega | (intros; first | omega | (refine ⟨by omega, ?_⟩; repeat (first | assumption | constructor)) | assumption))); intro _; try simp )
          | fail)
        refine CondK.intro (fun h4 => ?_) (fun h4 => ?_)
        · simp at h4
          simp [cmpI, h4, show ¬ a < b by omega]
        · simp at h4
          simp [cmpI, show ¬ a < b by omega, show ¬ b < a by omega]
theorem cmpW_nil : cmpW [] [] = 0 := rfl
theorem cmpW_short (y : Int) (m : List Int) : cmpW [] (y :: m) = -1 := by simp [cmpW, bef]
theorem cmpW_long (x : Int) (l : List Int) : cmpW (x :: l) [] = 1 := by simp [cmpW, bef]
theorem cmpW_cons (x y : Int) (l m : List Int) : cmpW (x :: l) (y :: m) = if cmpI x y ≠ 0 then cmpI x y else cmpW l m := by
  unfold cmpW cmpI
  by_cases h : x = y
  · subst h; simp [bef]
  · by_cases h2 : x < y
    · simp [bef, h, h2]
    · have : y < x := by omega
      simp [bef, h, h2, this]
theorem Compare_c (a b : List Int) (ha : a.length ≤ big) (hb : b.length ≤ big) : CallP Try.prog 97 [ints a, ints b] (iv (cmpW a b)) := by
  refine C97 (by simp) ?_
  generalize hR : cmpW a b = R
  simp [A97]
  simp only [big] at ha hb
  refine LoopK.by (fun i : Nat => ⟨[(11, iv i), (10, iv a.length), (9, ints a), (0, ints a), (1, ints b)], []⟩) (fun i => a.length - i) (fun i => i ≤ a.length ∧ i ≤ b.length ∧ cmpW (a.drop i) (b.drop i) = R) 0 (by simpa using hR) (by simp) ?_
  intro i Q' ⟨hi, hib, hc⟩ hq he hr
  try simp 
  refine CondK.intro (fun h1 => ?_) (fun h1 => ?_)
  · simp at h1
    rw [drop_cons a i h1] at hc
    try simp [h1]
    repeat' (first
      | ((with_reducible refine PreK.intro ?_ ?_); (next => (first | omega | (intros; first | omega | (refine ⟨by omega, ?_⟩; repeat (first | assumption | constructor)) | assumption))); intro _; try simp [h1])
      | fail)
    refine CondK.intro (fun h2 => ?_) (fun h2 => ?_)
    · simp at h2
      rw [List.drop_eq_nil_of_le (show b.length ≤ i by omega), cmpW_long] at hc
      try simp 
      apply hr
      simp [hc]
    · simp at h2
      rw [drop_cons b i (by omega), cmpW_cons] at hc
      try simp [h2, h1]
      repeat' (first
        | (refine CallX.pure (cmpInt_c (el a i) (el b i)) (by simp) (by simp) ?_; try simp [h2, h1])
        | (refine CallK.intro (cmpInt_c (el a i) (el b i)) (by simp) (by simp) ?_; try simp [h2, h1])
        | (refine CallG.intro (fun _ => cmpInt_c (el a i) (el b i)) (by simp) (by simp) ?_; try simp [h2, h1])
        | ((with_reducible refine PreK.intro ?_ ?_); (next => (first | omega | (intros; first | omega | (refine ⟨by omega, ?_⟩; repeat (first | assumption | constructor)) | assumption))); intro _; try simp [h2, h1])
        | fail)
      refine CondK.intro (fun h3 => ?_) (fun h3 => ?_)
      · simp at h3
        rw [if_pos h3] at hc
        try simp 
        apply hr
        simp [hc]
      · simp at h3
        rw [if_neg (by simpa using h3)] at hc
        try simp 
        repeat' (first
          | ((with_reducible refine PreK.intro ?_ ?_); (next => (first | omega | (intros; first | omega | (refine ⟨by omega, ?_⟩; repeat (first | assumption | constructor)) | assumption))); intro _; try simp )
          | fail)
        exact hq (i + 1) _ ⟨by omega, by omega, hc⟩ (by omega) (by simp)
  · simp at h1
    rw [List.drop_eq_nil_of_le (by omega)] at hc
    try simp 
    apply he
    try simp 
    refine CondK.intro (fun h2 => ?_) (fun h2 => ?_)
    · simp at h2
      rw [drop_cons b i (by omega), cmpW_short] at hc
      simp [hc]
    · simp at h2
      rw [List.drop_eq_nil_of_le (by omega), cmpW_nil] at hc
      simp [hc]

/-- A list whose equal neighbours are one. -/
def compF (p : List Int) : List (List Int) → List (List Int)
  | [] => []
  | y :: l => if y = p then compF p l else y :: compF y l
def compW : List (List Int) → List (List Int)
  | [] => []
  | x :: l => x :: compF x l
theorem compF_num : ∀ (p : List Int) (l : List (List Int)), (compF p l).length ≤ l.length
  | p, [] => by simp [compF]
  | p, y :: l => by
    rw [compF]
    split
    · have := compF_num p l; simp; omega
    · have := compF_num y l; simp; omega
end Go.Proofs.Ytkhddecnllcaiaa
end

section
/- Contracts: equal neighbours left out, and the sort of words. -/
namespace Go.Proofs.Ytkhddecnllcaiaa
open Go.Abs Go
set_option maxRecDepth 20000
set_option maxHeartbeats 2000000
attribute [local irreducible] PreK CondK CallK CallG CallX LoopK
attribute [local simp] avsEq avEq akind teq vkind vEq

theorem take_setG {α : Type} [Inhabited α] (o : List α) (i : Nat) (v : α) (hi : i < o.length) : (o.set i v).take (i + 1) = o.take i ++ [v] := by
  rw [take_succ _ i (by simpa using hi)]
  have : el (o.set i v) i = v := by unfold el; simp [hi]
  rw [this, List.take_set, List.set_eq_of_length_le (by simp; omega)]
theorem compact_L (l : List (List Int)) (hl : l.length ≤ 1000) (hw : ∀ w ∈ l, w.length ≤ 1000) :
    CallL Try.prog 98 [] 1 (l.map ints) [.fn 89 [] []] (.part (compW l).length) ((compW l).map ints ++ List.replicate (l.length - (compW l).length) (.seq 1 [] true)) := by
  refine CL98 (by simp) ?_
  have hel : ∀ i, (el l i).length ≤ 1000 := by
    intro i
    by_cases h : i < l.length
    · exact hw _ (el_mem_of l i h)
    · unfold el; rw [List.getD_eq_getElem?_getD, List.getElem?_eq_none (by omega)]; simp [default]
  generalize hR : compW l = R
  simp [A98]
  refine CondK.intro (fun h1 => ?_) (fun h1 => ?_)
  · simp at h1
    have : R = l := by
      rw [← hR]
      match l, h1 with
      | [], _ => rfl
      | [x], _ => rfl
      | _ :: _ :: _, h1 => simp at h1; omega
    subst this
    simp
  · simp at h1
    try simp 
    have h0 : l.take 1 ++ compF (el l 0) (l.drop 1) = R := by
      rw [← hR]
      match l, h1 with
      | x :: m, _ => simp [compW, el]
    refine LoopK.by (fun k : Nat => ⟨[(5, iv ((k : Int) + 1)), (0, .sl lid 0 0 l.length), (1, .fn 89 [] [])], [(lid, some ⟨1, l.map ints, 0, false⟩)]⟩) (fun i => l.length - i) (fun k => k + 1 ≤ l.length ∧ l.take (k + 1) ++ compF (el l k) (l.drop (k + 1)) = R) 0 ⟨by omega, h0⟩ (by simp) ?_
    intro k Q' ⟨hk, hc⟩ hq he hr
    try simp 
    refine CondK.intro (fun h2 => ?_) (fun h2 => ?_)
    · simp at h2
      have h2' : k + 1 < l.length := by omega
      have h2'' : k < l.length := by omega
      have he1 := equal_c (el l (k + 1)) (el l k) (Nat.le_trans (hel _) (by unfold big; omega))
      rw [drop_cons l (k + 1) h2', compF] at hc
      repeat (refine PreK.intro (by first | omega | (intros; first | omega | (refine ⟨by omega, ?_⟩; simp_all; done) | (simp_all; done) | (simp_all; omega))) fun _ => ?_; (try simp [h2', h2'']))
      refine CallK.intro (by simpa using he1) (by simp) (by simp) ?_
      try simp 
      refine CondK.intro (fun h3 => ?_) (fun h3 => ?_)
      · simp at h3
        rw [if_pos h3, ← h3] at hc
        try simp 
        repeat' (first
          | ((with_reducible refine PreK.intro ?_ ?_); (next => (first | omega | (intros; first | omega | (refine ⟨by omega, ?_⟩; repeat (first | assumption | constructor)) | assumption))); intro _; try simp )
          | fail)
        refine LoopK.by (ι := Nat × Nat × List (List Int)) (fun x => ⟨[(7, iv ((x.1 : Int) + 1)), (5, iv x.2.1), (6, .sl lid 0 (k + 1) (l.length - (k + 1))), (0, .sl lid 0 0 l.length), (1, .fn 89 [] [])], [(lid, some ⟨1, x.2.2.map ints, 0, false⟩)]⟩) (fun x => l.length - x.1)
          (fun x => k + 1 + x.1 + 1 ≤ l.length ∧ x.2.1 ≤ k + 1 + x.1 ∧ x.2.2.length = l.length ∧ (∀ q, k + 1 + x.1 ≤ q → el x.2.2 q = el l q) ∧ x.2.2.take x.2.1 ++ compF (el l (k + 1 + x.1)) (l.drop (k + 1 + x.1 + 1)) = R) (0, k + 1, l) ⟨by dsimp only; omega, by simp, rfl, fun _ _ => rfl, hc⟩ (by simp) ?_
        intro ⟨j, i, c⟩ Q'' ⟨hj, hij, hcl, hce, hin⟩ hq' he' hr'
        dsimp only at hj hij hcl hce hin
        try simp 
        refine CondK.intro (fun h4 => ?_) (fun h4 => ?_)
        · simp at h4
          have h5 : k + 1 + j + 1 < l.length := by omega
          have e1 := hce (k + 1 + j) (by omega)
          have e2 := hce (k + 1 + (j + 1)) (by omega)
          have e3 : k + 1 + (j + 1) = k + 1 + j + 1 := rfl
          have g1 : k + 1 + j < c.length := by omega
          have g2 : k + 1 + (j + 1) < c.length := by omega
          have he2 := equal_c (el l (k + 1 + (j + 1))) (el l (k + 1 + j)) (Nat.le_trans (hel _) (by unfold big; omega))
          rw [drop_cons l _ h5, compF] at hin
          repeat (refine PreK.intro (by first | omega | (intros; first | omega | (refine ⟨by omega, ?_⟩; simp_all; done) | (simp_all; done) | (simp_all; omega))) fun _ => ?_; (try simp [g1, g2, e1, e2]))
          refine CallK.intro (by simpa using he2) (by simp) (by simp) ?_
          try simp 
          repeat (refine PreK.intro (by first | omega | (intros; first | omega | (refine ⟨by omega, ?_⟩; simp_all; done) | (simp_all; done) | (simp_all; omega))) fun _ => ?_; (try simp ))
          refine CondK.intro (fun h6 => ?_) (fun h6 => ?_)
          · simp at h6
            rw [if_neg (by rw [← e3]; exact h6)] at hin
            have g3 : i < c.length := by omega
            repeat (refine PreK.intro (by first | omega | (intros; first | omega | (refine ⟨by omega, ?_⟩; simp_all; done) | (simp_all; done) | (simp_all; omega))) fun _ => ?_; (try simp [g1, g2, e1, e2, g3]))
            refine hq' (j + 1, i + 1, c.set i (el l (k + 1 + (j + 1)))) _ ⟨by dsimp only; omega, by dsimp only; omega, by simpa using hcl, fun q hq2 => ?_, ?_⟩ (by dsimp only; omega) ?_
            · dsimp only at hq2 ⊢
              unfold el
              rw [List.getD_eq_getElem?_getD, List.getElem?_set, if_neg (by omega), ← List.getD_eq_getElem?_getD]
              exact hce q (by omega)
            · dsimp only
              rw [take_setG _ _ _ g3, List.append_assoc]
              exact hin
            · simp [List.map_set]
          · simp at h6
            rw [if_pos (by rw [← e3]; exact h6)] at hin
            repeat (refine PreK.intro (by first | omega | (intros; first | omega | (refine ⟨by omega, ?_⟩; simp_all; done) | (simp_all; done) | (simp_all; omega))) fun _ => ?_; (try simp ))
            refine hq' (j + 1, i, c) _ ⟨by dsimp only; omega, by dsimp only; omega, hcl, fun q hq2 => hce q (by dsimp only at hq2; omega), ?_⟩ (by dsimp only; omega) (by simp)
            dsimp only
            rw [h6]
            exact hin
        · simp at h4
          rw [List.drop_eq_nil_of_le (by omega)] at hin
          simp only [compF, List.append_nil] at hin
          have hRl : R.length = i := by rw [← hin]; simp; omega
          try simp 
          apply he'
          have e5 : (c.map ints).take i = R.map ints := by rw [← hin, List.map_take]
          have e6 : (c.map ints).drop (i + (l.length - i)) = [] := List.drop_eq_nil_of_le (by simp; omega)
          try simp 
          repeat' (first
            | ((with_reducible refine PreK.intro ?_ ?_); (next => (first | omega | (intros; first | omega | (refine ⟨by omega, ?_⟩; repeat (first | assumption | constructor)) | assumption))); intro _; try simp )
            | fail)
          apply hr
          simp only [e5, e6, hRl]
          try simp 
      · simp at h3
        rw [if_neg h3] at hc
        repeat (refine PreK.intro (by first | omega | (intros; first | omega | (refine ⟨by omega, ?_⟩; simp_all; done) | (simp_all; done) | (simp_all; omega))) fun _ => ?_; (try simp ))
        refine hq (k + 1) _ ⟨by omega, ?_⟩ (by omega) (by simp)
        rw [take_succ l (k + 1) h2']
        simpa using hc
    · simp at h2
      rw [List.drop_eq_nil_of_le (by omega)] at hc
      simp only [compF, List.append_nil] at hc
      rw [List.take_of_length_le (by omega)] at hc
      subst hc
      try simp 
      apply he
      try simp 
      repeat' (first
        | ((with_reducible refine PreK.intro ?_ ?_); (next => (first | omega | (intros; first | omega | (refine ⟨by omega, ?_⟩; repeat (first | assumption | constructor)) | assumption))); intro _; try simp )
        | fail)
end Go.Proofs.Ytkhddecnllcaiaa
end

section
/- Contracts: the sorted list of words. -/
namespace Go.Proofs.Ytkhddecnllcaiaa
open Go.Abs Go
set_option maxRecDepth 20000
set_option maxHeartbeats 2000000
attribute [local irreducible] PreK CondK CallK CallG CallX LoopK
attribute [local simp] avsEq avEq akind teq vkind vEq

theorem sortW_len (l : List (List Int)) : (sortW l).length = l.length := (sortW_perm l).length_eq
theorem sorted_L (l : List (List Int)) (hl : l.length ≤ 1000) (hw : ∀ w ∈ l, w.length ≤ 1000) :
    CallL Try.prog 58 [] 1 (l.map ints) [] (.part (compW (sortW l)).length) ((compW (sortW l)).map ints ++ List.replicate (l.length - (compW (sortW l)).length) (.seq 1 [] true)) := by
  refine CL58 (by simp) ?_
  have h1 : CallL Try.prog 96 [] 1 (l.map ints) [.fn 97 [] []] (.val (.tup [])) ((sortW l).map ints) := callL_sort lsort Compare_c l
  have h2 := compact_L (sortW l) (by rw [sortW_len]; exact hl) (fun w h => hw w ((sortW_perm l).mem_iff.1 h))
  have hsl := sortW_len l
  have hnum : (compW (sortW l)).length ≤ l.length := by
    rw [← hsl]
    cases sortW l with
    | nil => simp [compW]
    | cons x m => simp only [compW, List.length_cons]; have := compF_num x m; omega
  generalize sortW l = s at h1 h2 hsl hnum
  generalize compW s = c at h2 hnum
  simp [A58]
  refine CallX.lend [] (id := lid) (ver := 0) (n := l.length) (b := ⟨1, l.map ints, 0, false⟩) [.fn 97 [] []] (.val (.tup [])) _ (by simp) (by simp) (by simp) (by simp) (by simp) (by simp) (by simp) (by simpa using h1) ?_
  try simp 
  refine CallX.lend [] (id := lid) (ver := 0) (n := l.length) (b := ⟨1, s.map ints, 0, false⟩) [.fn 89 [] []] (.part c.length) _ (by simp) (by simp) (by simp) (by simp) (by simp [hsl]) (by simp) (by simp) (by simpa using h2) ?_
  simp [hsl]
end Go.Proofs.Ytkhddecnllcaiaa
end

section
/- Contracts: feed's Reach, Ends, Next. -/
namespace Go.Proofs.Ytkhddecnllcaiaa
open Go.Abs Go
set_option maxRecDepth 20000
set_option maxHeartbeats 2000000
attribute [local irreducible] PreK CondK CallK CallG CallX LoopK
attribute [local simp] avsEq avEq akind teq vkind vEq

theorem weak_intsV (l : List Int) : weak (ints l) = ints l := by simp [weak, Abs.weakL_map (f := iv) (fun _ => rfl)]
theorem weak_ruleV (r : Rule) : weak (ruleV r) = ruleV r := by simp [weak, weakL, Abs.weakL_map (f := iv) (fun _ => rfl)]
theorem weak_stepV (x : Step) : weak (stepV x) = stepV x := by simp [weak, weakL]
theorem weak_graph (k : Bool) (s : List Rule) (g : Gr) : weak (gV k s g) = graphV s g := by
  unfold gV graphV
  simp only [rulesV, wordsV, ints, stepsV, weak, weakL, Abs.weakL_map weak_ruleV, Abs.weakL_map weak_intsV, Abs.weakL_map weak_stepV, Abs.weakL_map (f := iv) (fun _ => rfl)]
theorem reach_c (s : List Rule) (w : List Int) (h : Sys.small s) (hs : sysErr s = 0) (hw : wordErr w = 0) : CallP Try.prog 69 [rulesV s, ints w] (reachV s (reachG s w)) := by
  have hx := (reach_x s w h hs hw).weakR
  have e : ∀ R, weakR (reachX s R) = reachV s R := by
    intro R
    cases R with
    | none => rfl
    | some g => simp only [reachX, reachV, weakR, weakRL, weak_graph]; rfl
  rwa [e] at hx
def reachedV (s : List Rule) (w : Word) : AV := if swErr s w ≠ 0 then .tup [.raw (.pointer none), iv (swErr s w)] else reachV s (reachG s w)
theorem reached_c (s : List Rule) (w : List Int) (h : Sys.small s) (hw : w.length ≤ 1000) : CallP Try.prog 56 [rulesV s, ints w] (reachedV s w) := by
  refine C56 (by simp) ?_
  have hck := check_c s [w] h (by simp) (by simpa using hw)
  rw [check_one] at hck
  simp [A56]
  refine CallX.pure (CallP.weak (by simpa [weakL, weak] using hck)) (by simp) (by simp) ?_
  try simp 
  refine CondK.intro (fun h1 => ?_) (fun h1 => ?_)
  · simp at h1
    simp [reachedV, h1]
  · simp at h1
    have hrc := reach_c s w h (swErr_zero h1).1 (swErr_zero h1).2
    have e : reachedV s w = reachV s (reachG s w) := by simp [reachedV, h1]
    rw [e]
    cases hg : reachG s w with
    | none =>
      rw [hg] at hrc
      simp only [reachV] at hrc ⊢
      try simp 
      repeat' (first
        | (refine CallX.pure (hrc) (by simp) (by simp) ?_; try simp )
        | (refine CallK.intro (hrc) (by simp) (by simp) ?_; try simp )
        | (refine CallG.intro (fun _ => hrc) (by simp) (by simp) ?_; try simp )
        | ((with_reducible refine PreK.intro ?_ ?_); (next => (first | omega | (intros; first | omega | (refine ⟨by omega, ?_⟩; repeat (first | assumption | constructor)) | assumption))); intro _; try simp )
        | fail)
    | some g =>
      rw [hg] at hrc
      simp only [reachV] at hrc ⊢
      try simp 
      repeat' (first
        | (refine CallX.pure (hrc) (by simp) (by simp) ?_; try simp )
        | (refine CallK.intro (hrc) (by simp) (by simp) ?_; try simp )
        | (refine CallG.intro (fun _ => hrc) (by simp) (by simp) ?_; try simp )
        | ((with_reducible refine PreK.intro ?_ ?_); (next => (first | omega | (intros; first | omega | (refine ⟨by omega, ?_⟩; repeat (first | assumption | constructor)) | assumption))); intro _; try simp )
        | fail)
/-- The words, each once, in order. -/
def uniq (l : List Word) : List Word := compW (sortW l)
theorem uniq_len (l : List Word) : (uniq l).length ≤ l.length := by
  unfold uniq
  have := (sortW_perm l).length_eq
  rw [← this]
  cases sortW l with
  | nil => simp [compW]
  | cons x m => simp only [compW, List.length_cons]; have := compF_num x m; omega
def ReachE (s : List Rule) (w : Word) : List Word × Int := if swErr s w ≠ 0 then ([], swErr s w) else match reachG s w with
  | none => ([], 3)
  | some g => (uniq g.ws, 0)
theorem addG_ok {s : List Rule} {i : Nat} : ∀ {l : List Move} {g g' : Gr}, (∀ m ∈ l, wordErr m.word = 0) → g.ok → addG i g l = some g' → g'.ok
  | [], g, g', _, h, e => by
    simp only [addG, Option.some.injEq] at e
    subst e; exact h
  | m :: l, g, g', hl, h, e => by
    rw [addG] at e
    split at e
    · exact addG_ok (s := s) (fun x hx => hl x (by simp [hx])) h e
    · split at e
      · cases e
      · rename_i h3
        exact addG_ok (s := s) (fun x hx => hl x (by simp [hx])) (h.push (hl m (by simp)) h3) e
theorem closeG_ok {s : List Rule} (hs : sysErr s = 0) : ∀ {n i : Nat} {g g' : Gr}, g.ok → closeG s n i g = some g' → g'.ok
  | 0, i, g, g', h, e => by
    simp only [closeG, Option.some.injEq] at e
    subst e; exact h
  | n + 1, i, g, g', h, e => by
    rw [closeG] at e
    split at e
    · rename_i hi
      cases ha : addG i g (movesM s (el g.ws i)) with
      | none => rw [ha] at e; cases e
      | some g2 =>
        rw [ha] at e
        exact closeG_ok hs (addG_ok (s := s) (fun m hm => moves_right hs (h.fine _ (el_mem_of g.ws i hi)) hm) h ha) e
    · simp only [Option.some.injEq] at e
      subst e; exact h
theorem reachG_ok {s : List Rule} {w : Word} {g : Gr} (h : swErr s w = 0) (e : reachG s w = some g) : g.ok := closeG_ok (swErr_zero h).1 (Gr.start (swErr_zero h).2) e
theorem Reach_c (s : List Rule) (w : List Int) (h : Sys.small s) (hw : w.length ≤ 1000) : CallP Try.prog 19 [rulesV s, ints w] (.tup [wordsV (ReachE s w).1, iv (ReachE s w).2]) := by
  refine C19 (by simp) ?_
  have hrc := reached_c s w h hw
  by_cases h1 : swErr s w = 0
  · have e1 : reachedV s w = reachV s (reachG s w) := by simp [reachedV, h1]
    rw [e1] at hrc
    cases hg : reachG s w with
    | none =>
      rw [hg] at hrc
      have e2 : ReachE s w = ([], 3) := by simp [ReachE, h1, hg]
      rw [e2]
      simp only [reachV] at hrc
      simp [A19]
      try simp 
      repeat' (first
        | (refine CallX.pure (hrc) (by simp) (by simp) ?_; try simp )
        | (refine CallK.intro (hrc) (by simp) (by simp) ?_; try simp )
        | (refine CallG.intro (fun _ => hrc) (by simp) (by simp) ?_; try simp )
        | ((with_reducible refine PreK.intro ?_ ?_); (next => (first | omega | (intros; first | omega | (refine ⟨by omega, ?_⟩; repeat (first | assumption | constructor)) | assumption))); intro _; try simp )
        | fail)
      refine CondK.intro (fun h2 => ?_) (fun h2 => ?_)
      · try simp 
        repeat' (first
          | ((with_reducible refine PreK.intro ?_ ?_); (next => (first | omega | (intros; first | omega | (refine ⟨by omega, ?_⟩; repeat (first | assumption | constructor)) | assumption))); intro _; try simp )
          | fail)
      · simp at h2
    | some g =>
      rw [hg] at hrc
      have hok := reachG_ok h1 hg
      have hnum := hok.num
      have e2 : ReachE s w = (uniq g.ws, 0) := by simp [ReachE, h1, hg]
      rw [e2]
      simp only [reachV, graphV] at hrc
      simp [A19]
      try simp 
      repeat' (first
        | (refine CallX.pure (hrc) (by simp) (by simp) ?_; try simp )
        | (refine CallK.intro (hrc) (by simp) (by simp) ?_; try simp )
        | (refine CallG.intro (fun _ => hrc) (by simp) (by simp) ?_; try simp )
        | ((with_reducible refine PreK.intro ?_ ?_); (next => (first | omega | (intros; first | omega | (refine ⟨by omega, ?_⟩; repeat (first | assumption | constructor)) | assumption))); intro _; try simp )
        | fail)
      refine CondK.intro (fun h2 => ?_) (fun h2 => ?_)
      · simp at h2
      · try simp 
        repeat' (first
          | ((with_reducible refine PreK.intro ?_ ?_); (next => (first | omega | (intros; first | omega | (refine ⟨by omega, ?_⟩; repeat (first | assumption | constructor)) | assumption))); intro _; try simp )
          | fail)
        refine LoopK.by (ι := Nat × Nat) (fun x => ⟨[(25, iv x.1), (24, iv g.ws.length), (23, wordsV g.ws), (8, .sl 8 x.2 0 x.1)], [(8, some ⟨1, (g.ws.take x.1).map ints, x.2, false⟩)]⟩) (fun x => g.ws.length - x.1) (fun x => x.1 ≤ g.ws.length) (0, 1) (by simp) (by simp) ?_
        intro ⟨i, v⟩ Q' hi hq he hr
        dsimp only at hi
        try simp 
        refine CondK.intro (fun h3 => ?_) (fun h3 => ?_)
        · simp at h3
          have hwl := (wordErr_zero (hok.fine _ (el_mem_of g.ws i h3))).1
          have hmi : min i g.ws.length = i := by omega
          try simp [h3, hmi]
          repeat' (first
            | (refine CallX.pure ((clone_o (el g.ws i) (by omega)).toP) (by simp) (by simp) ?_; try simp [h3, hmi])
            | (refine CallK.intro ((clone_o (el g.ws i) (by omega)).toP) (by simp) (by simp) ?_; try simp [h3, hmi])
            | (refine CallG.intro (fun _ => (clone_o (el g.ws i) (by omega)).toP) (by simp) (by simp) ?_; try simp [h3, hmi])
            | ((with_reducible refine PreK.intro ?_ ?_); (next => (first | omega | (intros; first | omega | (refine ⟨by omega, ?_⟩; repeat (first | assumption | constructor)) | assumption))); intro _; try simp [h3, hmi])
            | fail)
          refine hq (i + 1, v + 1) _ (by dsimp only; omega) (by dsimp only; omega) ?_
          have e5 : List.take (i + 1) (g.ws.map ints) = List.take i (g.ws.map ints) ++ [ints (el g.ws i)] := by rw [← List.map_take, ← List.map_take, take_succ g.ws i h3]; simp
          simp only [ints] at e5
          simp [List.take_take, e5]
        · simp at h3
          have hil : i = g.ws.length := by omega
          subst hil
          try simp 
          apply he
          have hsl := sorted_L g.ws (by omega) (fun x hx => by
            have := (wordErr_zero (hok.fine x hx)).1
            omega)
          have hsl2 : CallL Try.prog 58 [] 1 (g.ws.map ints) [] (.part (uniq g.ws).length) ((uniq g.ws).map ints ++ List.replicate (g.ws.length - (uniq g.ws).length) (.seq 1 [] true)) := hsl
          generalize uniq g.ws = U at hsl2
          try simp 
          refine CallX.lend [] (id := 8) (ver := v) (n := g.ws.length) (b := ⟨1, g.ws.map ints, v, false⟩) [] (.part U.length) _ (by simp) (by simp) (by simp) (by simp) (by simp) (by simp) (by simp) (by simpa using hsl2) ?_
          try simp 
  · have e1 : reachedV s w = .tup [.raw (.pointer none), iv (swErr s w)] := by simp [reachedV, h1]
    rw [e1] at hrc
    have e2 : ReachE s w = ([], swErr s w) := by simp [ReachE, h1]
    rw [e2]
    simp [A19]
    try simp 
    repeat' (first
      | (refine CallX.pure (hrc) (by simp) (by simp) ?_; try simp )
      | (refine CallK.intro (hrc) (by simp) (by simp) ?_; try simp )
      | (refine CallG.intro (fun _ => hrc) (by simp) (by simp) ?_; try simp )
      | ((with_reducible refine PreK.intro ?_ ?_); (next => (first | omega | (intros; first | omega | (refine ⟨by omega, ?_⟩; repeat (first | assumption | constructor)) | assumption))); intro _; try simp )
      | fail)
    refine CondK.intro (fun h2 => ?_) (fun h2 => ?_)
    · try simp 
      repeat' (first
        | ((with_reducible refine PreK.intro ?_ ?_); (next => (first | omega | (intros; first | omega | (refine ⟨by omega, ?_⟩; repeat (first | assumption | constructor)) | assumption))); intro _; try simp )
        | fail)
    · simp at h2
      exact absurd h2 h1
end Go.Proofs.Ytkhddecnllcaiaa
end

section
/- Contracts: feed's Ends. -/
namespace Go.Proofs.Ytkhddecnllcaiaa
open Go.Abs Go
set_option maxRecDepth 20000
set_option maxHeartbeats 2000000
attribute [local irreducible] PreK CondK CallK CallG CallX LoopK
attribute [local simp] avsEq avEq akind teq vkind vEq

def isEndM (s : List Rule) (u : Word) : Bool := decide ((movesM s u).length = 0)
theorem ends_c (s : List Rule) (g : Gr) (h : Sys.small s) (hs : sysErr s = 0) (hok : g.ok) : CallP Try.prog 59 [.ipt (graphV s g) 0] (wordsV (uniq (g.ws.filter (isEndM s)))) := by
  refine C59 (by simp) ?_
  have hnum := hok.num
  generalize hF : g.ws.filter (isEndM s) = F
  simp [A59, graphV]
  refine LoopK.by (ι := Nat × Nat × List Word) (fun x => ⟨[(0, .ipt (graphV s g) 0), (11, iv x.1), (10, iv g.ws.length), (9, wordsV g.ws), (3, .sl 3 x.2.1 0 x.2.2.length)], [(3, some ⟨1, x.2.2.map ints, x.2.1, false⟩)]⟩) (fun x => g.ws.length - x.1)
    (fun x => x.1 ≤ g.ws.length ∧ x.2.2.length ≤ x.1 ∧ (∀ y ∈ x.2.2, y.length ≤ 8) ∧ x.2.2 ++ (g.ws.drop x.1).filter (isEndM s) = F) (0, 1, []) (by simpa using hF) (by simp [graphV]) ?_
  intro ⟨i, v, k⟩ Q' ⟨hi, hk, hk8, hc⟩ hq he hr
  dsimp only at hi hk hk8 hc
  simp only [graphV]
  try simp 
  refine CondK.intro (fun h1 => ?_) (fun h1 => ?_)
  · simp at h1
    have hu := hok.fine _ (el_mem_of g.ws i h1)
    have hwl := (wordErr_zero hu).1
    rw [drop_cons g.ws i h1, List.filter_cons] at hc
    try simp [h1]
    repeat' (first
      | (refine CallX.pure (moves_c s (el g.ws i) h hs hu) (by simp) (by simp) ?_; try simp [h1])
      | (refine CallK.intro (moves_c s (el g.ws i) h hs hu) (by simp) (by simp) ?_; try simp [h1])
      | (refine CallG.intro (fun _ => moves_c s (el g.ws i) h hs hu) (by simp) (by simp) ?_; try simp [h1])
      | ((with_reducible refine PreK.intro ?_ ?_); (next => (first | omega | (intros; first | omega | (refine ⟨by omega, ?_⟩; repeat (first | assumption | constructor)) | assumption))); intro _; try simp [h1])
      | fail)
    refine CondK.intro (fun h2 => ?_) (fun h2 => ?_)
    · have e : isEndM s (el g.ws i) = true := by (try simp at h2); unfold isEndM; simp [h2]
      rw [if_pos e] at hc
      try simp [h1]
      repeat' (first
        | (refine CallX.pure ((clone_o (el g.ws i) (by omega)).toP) (by simp) (by simp) ?_; try simp [h1])
        | (refine CallK.intro ((clone_o (el g.ws i) (by omega)).toP) (by simp) (by simp) ?_; try simp [h1])
        | (refine CallG.intro (fun _ => (clone_o (el g.ws i) (by omega)).toP) (by simp) (by simp) ?_; try simp [h1])
        | ((with_reducible refine PreK.intro ?_ ?_); (next => (first | omega | (intros; first | omega | (refine ⟨by omega, ?_⟩; repeat (first | assumption | constructor)) | assumption))); intro _; try simp [h1])
        | fail)
      refine hq (i + 1, v + 1, k ++ [el g.ws i]) _ ⟨by dsimp only; omega, by simp; omega, fun y hy => ?_, by simpa using hc⟩ (by dsimp only; omega) (by simp [graphV])
      rcases List.mem_append.1 hy with hy | hy
      · exact hk8 y hy
      · simp only [List.mem_singleton] at hy
        subst hy; exact hwl
    · have e : isEndM s (el g.ws i) = false := by (try simp at h2); unfold isEndM; simp [h2]
      rw [if_neg (by simp [e])] at hc
      try simp 
      repeat' (first
        | ((with_reducible refine PreK.intro ?_ ?_); (next => (first | omega | (intros; first | omega | (refine ⟨by omega, ?_⟩; repeat (first | assumption | constructor)) | assumption))); intro _; try simp )
        | fail)
      exact hq (i + 1, v, k) _ ⟨by dsimp only; omega, by dsimp only; omega, hk8, hc⟩ (by dsimp only; omega) (by simp [graphV])
  · simp at h1
    rw [List.drop_eq_nil_of_le (by omega)] at hc
    simp only [List.filter_nil, List.append_nil] at hc
    subst hc
    try simp 
    apply he
    have hsl := sorted_L k (by omega) (fun x hx => by have := hk8 x hx; omega)
    have hsl2 : CallL Try.prog 58 [] 1 (k.map ints) [] (.part (uniq k).length) ((uniq k).map ints ++ List.replicate (k.length - (uniq k).length) (.seq 1 [] true)) := hsl
    generalize uniq k = U at hsl2
    try simp 
    refine CallX.lend [] (id := 3) (ver := v) (n := k.length) (b := ⟨1, k.map ints, v, false⟩) [] (.part U.length) _ (by simp) (by simp) (by simp) (by simp) (by simp) (by simp) (by simp) (by simpa using hsl2) ?_
    try simp 
def EndsE (s : List Rule) (w : Word) : List Word × Int := if swErr s w ≠ 0 then ([], swErr s w) else match reachG s w with
  | none => ([], 3)
  | some g => (uniq (g.ws.filter (isEndM s)), 0)
theorem Ends_c (s : List Rule) (w : List Int) (h : Sys.small s) (hw : w.length ≤ 1000) : CallP Try.prog 21 [rulesV s, ints w] (.tup [wordsV (EndsE s w).1, iv (EndsE s w).2]) := by
  refine C21 (by simp) ?_
  have hrc := reached_c s w h hw
  by_cases h1 : swErr s w = 0
  · have e1 : reachedV s w = reachV s (reachG s w) := by simp [reachedV, h1]
    rw [e1] at hrc
    cases hg : reachG s w with
    | none =>
      rw [hg] at hrc
      have e2 : EndsE s w = ([], 3) := by simp [EndsE, h1, hg]
      rw [e2]
      simp only [reachV] at hrc
      simp [A21]
      try simp 
      repeat' (first
        | (refine CallX.pure (hrc) (by simp) (by simp) ?_; try simp )
        | (refine CallK.intro (hrc) (by simp) (by simp) ?_; try simp )
        | (refine CallG.intro (fun _ => hrc) (by simp) (by simp) ?_; try simp )
        | ((with_reducible refine PreK.intro ?_ ?_); (next => (first | omega | (intros; first | omega | (refine ⟨by omega, ?_⟩; repeat (first | assumption | constructor)) | assumption))); intro _; try simp )
        | fail)
      refine CondK.intro (fun h2 => ?_) (fun h2 => ?_)
      · try simp 
        repeat' (first
          | ((with_reducible refine PreK.intro ?_ ?_); (next => (first | omega | (intros; first | omega | (refine ⟨by omega, ?_⟩; repeat (first | assumption | constructor)) | assumption))); intro _; try simp )
          | fail)
      · simp at h2
    | some g =>
      rw [hg] at hrc
      have hec := ends_c s g h (swErr_zero h1).1 (reachG_ok h1 hg)
      have e2 : EndsE s w = (uniq (g.ws.filter (isEndM s)), 0) := by simp [EndsE, h1, hg]
      rw [e2]
      simp only [reachV, graphV] at hrc
      simp only [graphV] at hec
      generalize uniq (g.ws.filter (isEndM s)) = U at hec
      simp [A21]
      try simp 
      repeat' (first
        | (refine CallX.pure (hrc) (by simp) (by simp) ?_; try simp )
        | (refine CallK.intro (hrc) (by simp) (by simp) ?_; try simp )
        | (refine CallG.intro (fun _ => hrc) (by simp) (by simp) ?_; try simp )
        | ((with_reducible refine PreK.intro ?_ ?_); (next => (first | omega | (intros; first | omega | (refine ⟨by omega, ?_⟩; repeat (first | assumption | constructor)) | assumption))); intro _; try simp )
        | fail)
      refine CondK.intro (fun h2 => ?_) (fun h2 => ?_)
      · simp at h2
      · try simp 
        repeat' (first
          | (refine CallX.pure (hec) (by simp) (by simp) ?_; try simp )
          | (refine CallK.intro (hec) (by simp) (by simp) ?_; try simp )
          | (refine CallG.intro (fun _ => hec) (by simp) (by simp) ?_; try simp )
          | ((with_reducible refine PreK.intro ?_ ?_); (next => (first | omega | (intros; first | omega | (refine ⟨by omega, ?_⟩; repeat (first | assumption | constructor)) | assumption))); intro _; try simp )
          | fail)
  · have e1 : reachedV s w = .tup [.raw (.pointer none), iv (swErr s w)] := by simp [reachedV, h1]
    rw [e1] at hrc
    have e2 : EndsE s w = ([], swErr s w) := by simp [EndsE, h1]
    rw [e2]
    simp [A21]
    try simp 
    repeat' (first
      | (refine CallX.pure (hrc) (by simp) (by simp) ?_; try simp )
      | (refine CallK.intro (hrc) (by simp) (by simp) ?_; try simp )
      | (refine CallG.intro (fun _ => hrc) (by simp) (by simp) ?_; try simp )
      | ((with_reducible refine PreK.intro ?_ ?_); (next => (first | omega | (intros; first | omega | (refine ⟨by omega, ?_⟩; repeat (first | assumption | constructor)) | assumption))); intro _; try simp )
      | fail)
    refine CondK.intro (fun h2 => ?_) (fun h2 => ?_)
    · try simp 
      repeat' (first
        | ((with_reducible refine PreK.intro ?_ ?_); (next => (first | omega | (intros; first | omega | (refine ⟨by omega, ?_⟩; repeat (first | assumption | constructor)) | assumption))); intro _; try simp )
        | fail)
    · simp at h2
      exact absurd h2 h1
end Go.Proofs.Ytkhddecnllcaiaa
end

section
/- Contracts: equal lists; what is known of feed. -/
namespace Go.Proofs.Ytkhddecnllcaiaa
open Go.Abs Go
set_option maxRecDepth 20000
set_option maxHeartbeats 2000000
attribute [local irreducible] PreK CondK CallK CallG CallX LoopK
attribute [local simp] avsEq avEq akind teq vkind vEq

theorem same1_c (a b : List Int) (ha : a.length ≤ big) : CallP Try.prog 8 [ints a, ints b] (bv (decide (a = b))) := by
  refine C8 (by simp) ?_
  generalize hR : decide (a = b) = R
  simp [A8]
  refine CondK.intro (fun h => ?_) (fun h => ?_)
  · simp at h
    have : a ≠ b := fun e => h (by rw [e])
    simp [this] at hR
    simp [hR]
  · simp at h
    simp
    refine LoopK.by (fun i : Nat => ⟨[(5, iv i), (4, bv false), (0, ints a), (1, ints b)], []⟩) (fun i => a.length - i) (fun i => i ≤ a.length ∧ decide (a.drop i = b.drop i) = R) 0 (by simpa using hR) (by simp) ?_
    intro i Q' ⟨hi, hc⟩ hq he hr
    simp
    refine CondK.intro (fun h2 => ?_) (fun h2 => ?_)
    · simp at h2
      rw [drop_cons a i h2, drop_cons b i (by omega)] at hc
      simp [h2, show i < b.length by omega]
      refine CondK.intro (fun h3 => ?_) (fun h3 => ?_)
      · simp at h3
        simp [h3] at hc
        simp
        apply hr
        simp [hc]
      · simp at h3
        simp [h3] at hc
        simp
        refine PreK.intro (by simp only [big] at ha; omega) fun _ => ?_
        simp
        exact hq (i + 1) _ ⟨by omega, by simpa using hc⟩ (by omega) (by simp)
    · simp at h2
      rw [List.drop_eq_nil_of_le (by omega), List.drop_eq_nil_of_le (by omega)] at hc
      simp at hc
      simp
      apply he
      simp [hc]
theorem sameLists_c (a b : List Word) (ha : a.length ≤ big) (hw : ∀ x ∈ a, x.length ≤ big) : CallP Try.prog 34 [wordsV a, wordsV b] (bv (decide (a = b))) := by
  refine C34 (by simp) ?_
  generalize hR : decide (a = b) = R
  simp only [big] at ha
  simp [A34]
  refine CondK.intro (fun h => ?_) (fun h => ?_)
  · simp at h
    have : a ≠ b := fun e => h (by rw [e])
    simp [this] at hR
    simp [hR]
  · simp at h
    try simp 
    refine LoopK.by (fun i : Nat => ⟨[(5, iv i), (0, wordsV a), (1, wordsV b)], []⟩) (fun i => a.length - i) (fun i => i ≤ a.length ∧ decide (a.drop i = b.drop i) = R) 0 (by simpa using hR) (by simp) ?_
    intro i Q' ⟨hi, hc⟩ hq he hr
    try simp 
    refine CondK.intro (fun h2 => ?_) (fun h2 => ?_)
    · simp at h2
      have h2b : i < b.length := by omega
      have hs := same1_c (el a i) (el b i) (hw _ (el_mem_of a i h2))
      rw [drop_cons a i h2, drop_cons b i h2b] at hc
      repeat (refine PreK.intro (by first | omega | (intros; first | omega | (refine ⟨by omega, ?_⟩; simp_all; done) | (simp_all; done) | (simp_all; omega))) fun _ => ?_; (try simp [h2, h2b]))
      refine CallK.intro (by simpa using hs) (by simp) (by simp) ?_
      try simp 
      repeat (refine PreK.intro (by first | omega | (intros; first | omega | (refine ⟨by omega, ?_⟩; simp_all; done) | (simp_all; done) | (simp_all; omega))) fun _ => ?_; (try simp ))
      refine CondK.intro (fun h3 => ?_) (fun h3 => ?_)
      · simp at h3
        simp [h3] at hc
        try simp 
        apply hr
        simp [hc]
      · simp at h3
        simp [h3] at hc
        repeat (refine PreK.intro (by first | omega | (intros; first | omega | (refine ⟨by omega, ?_⟩; simp_all; done) | (simp_all; done) | (simp_all; omega))) fun _ => ?_; (try simp ))
        exact hq (i + 1) _ ⟨by omega, by simpa using hc⟩ (by omega) (by simp)
    · simp at h2
      rw [List.drop_eq_nil_of_le (by omega), List.drop_eq_nil_of_le (by omega)] at hc
      simp at hc
      try simp 
      apply he
      simp [hc]
theorem known_c : CallP Try.prog 36 [] (bv true) := by
  refine C36 (by simp) ?_
  have s1 : Sys.small [⟨0, [1, 1], [], []⟩, ⟨1, [], [], []⟩] := ⟨by simp, by intro r hr; simp at hr; rcases hr with rfl | rfl <;> exact ⟨by simp, by simp, by simp⟩⟩
  have s2 : Sys.small [⟨0, [1], [], []⟩, ⟨0, [2], [], []⟩] := ⟨by simp, by intro r hr; simp at hr; rcases hr with rfl | rfl <;> exact ⟨by simp, by simp, by simp⟩⟩
  have hW := Weights_c [⟨0, [1, 1], [], []⟩, ⟨1, [], [], []⟩] s1
  have hE := Ends_c [⟨0, [1], [], []⟩, ⟨0, [2], [], []⟩] [0] s2 (by simp)
  have e1 : WeightsR [⟨0, [1, 1], [], []⟩, ⟨1, [], [], []⟩] = ([3, 1, 0, 0, 0, 0], true, 0) := by decide
  have e2 : EndsE [⟨0, [1], [], []⟩, ⟨0, [2], [], []⟩] [0] = ([[1], [2]], 0) := by decide
  rw [e1] at hW
  rw [e2] at hE
  simp [A36]
  simp at hW hE
  refine CallX.pure (CallP.weak (by simpa [weakL, weak] using hW)) (by simp) (by simp) ?_
  try simp 
  refine CallX.pure (CallP.weak (by simpa [weakL, weak] using hE)) (by simp) (by simp) ?_
  have h1 := same1_c [3, 1, 0, 0, 0, 0] [3, 1, 0, 0, 0, 0] (by simp [big])
  have h2 := sameLists_c [[1], [2]] [[1], [2]] (by simp [big]) (by simp [big])
  simp at h2
  try simp 
  repeat' (first
    | (refine CallX.pure (h1) (by simp) (by simp) ?_; try simp )
    | (refine CallK.intro (h1) (by simp) (by simp) ?_; try simp )
    | (refine CallG.intro (fun _ => h1) (by simp) (by simp) ?_; try simp )
    | ((with_reducible refine PreK.intro ?_ ?_); (next => (first | omega | (intros; first | omega | (refine ⟨by omega, ?_⟩; repeat (first | assumption | constructor)) | assumption))); intro _; try simp )
    | fail)
  refine CallG.intro (fun _ => CallP.weak (by simpa [weakL, weak] using h2)) (by simp) (by simp) ?_
  try simp 
end Go.Proofs.Ytkhddecnllcaiaa
end

section
/- Functions of the cut as the value layer reads them. (written by gen.py) -/
set_option maxRecDepth 20000
namespace Go.Proofs.Ytkhddecnllcaiaa
open Go.Abs Go

def A9 : ACode :=
  (.seq (.reg [] [⟨some 1, (.box 24 (.tmp 0)), 0, none⟩,
      ⟨some 2, (.assign (.const (.bool false))), 4, none⟩])
    (.seq (.reg [] [⟨some 3, (.fieldAddr 24 (.tmp 1) 1), 0, none⟩,
      ⟨some 4, (.load 22 (.tmp 3)), 22, none⟩,
      ⟨some 5, (.call ⟨(.value (.func 44)), #[(.tmp 4)], #[22]⟩), 4, none⟩,
      ⟨some 6, (.move (.tmp 5)), 4, none⟩,
      ⟨some 7, (.fieldAddr 24 (.tmp 1) 2), 0, some (6, false)⟩,
      ⟨some 8, (.load 22 (.tmp 7)), 22, some (6, false)⟩,
      ⟨some 9, (.call ⟨(.value (.func 44)), #[(.tmp 8)], #[22]⟩), 4, some (6, false)⟩,
      ⟨some 10, (.pick (.tmp 6) (.const (.bool true)) (.tmp 9)), 4, none⟩,
      ⟨some 11, (.move (.tmp 10)), 4, none⟩,
      ⟨some 12, (.fieldAddr 24 (.tmp 1) 3), 0, some (11, false)⟩,
      ⟨some 13, (.load 22 (.tmp 12)), 22, some (11, false)⟩,
      ⟨some 14, (.call ⟨(.value (.func 44)), #[(.tmp 13)], #[22]⟩), 4, some (11, false)⟩,
      ⟨some 15, (.pick (.tmp 11) (.const (.bool true)) (.tmp 14)), 4, none⟩,
      ⟨some 2, (.assign (.tmp 15)), 4, none⟩])
    .ret))
theorem C9 {args : List AV} {r : AV} (hn : args.length ≤ 16) (h : vc Try.prog T [] A9 (Fin T [(.tmp 2)] r) ⟨envOf 0 args, []⟩) : CallP Try.prog 9 args r :=
  callP_of tok mixed Try.func9 (by kernel_rfl) (by kernel_rfl) (by kernel_rfl : Try.f9.ntmps = 16) (by kernel_rfl : Try.f9.body.bind (strip 16 (fun _ => [])) = some A9) hn h
def A44 : ACode :=
  (.seq (.reg [] [⟨some 2, (.assign (.const (.bool false))), 4, none⟩])
    (.seq (.reg [] [⟨some 3, (.move (.tmp 0)), 22, none⟩,
      ⟨some 4, (.call ⟨(.builtin .len), #[(.tmp 3)], #[22]⟩), 3, none⟩,
      ⟨some 5, (.binOp .gtr 3 (.tmp 4) (.const (.int .i64 100)) 3), 4, none⟩,
      ⟨some 2, (.assign (.tmp 5)), 4, none⟩])
    .ret))
theorem C44 {args : List AV} {r : AV} (hn : args.length ≤ 6) (h : vc Try.prog T [] A44 (Fin T [(.tmp 2)] r) ⟨envOf 0 args, []⟩) : CallP Try.prog 44 args r :=
  callP_of tok mixed Try.func44 (by kernel_rfl) (by kernel_rfl) (by kernel_rfl : Try.f44.ntmps = 6) (by kernel_rfl : Try.f44.body.bind (strip 6 (fun _ => [])) = some A44) hn h
def A76 : ACode :=
  (.seq (.reg [] [⟨some 6, (.assign (.const (.bool false))), 4, none⟩])
    (.seq (.reg [] [⟨some 7, (.move (.tmp 0)), 3, none⟩,
      ⟨some 8, (.move (.tmp 1)), 3, none⟩,
      ⟨some 9, (.binOp .geq 3 (.tmp 7) (.tmp 8) 3), 4, none⟩,
      ⟨some 10, (.move (.tmp 9)), 4, none⟩,
      ⟨some 11, (.move (.tmp 0)), 3, some (10, true)⟩,
      ⟨some 12, (.move (.tmp 2)), 3, some (10, true)⟩,
      ⟨some 13, (.binOp .leq 3 (.tmp 11) (.tmp 12) 3), 4, some (10, true)⟩,
      ⟨some 14, (.pick (.tmp 10) (.tmp 13) (.const (.bool false))), 4, none⟩,
      ⟨some 6, (.assign (.tmp 14)), 4, none⟩])
    .ret))
theorem C76 {args : List AV} {r : AV} (hn : args.length ≤ 15) (h : vc Try.prog T [] A76 (Fin T [(.tmp 6)] r) ⟨envOf 0 args, []⟩) : CallP Try.prog 76 args r :=
  callP_of tok mixed Try.func76 (by kernel_rfl) (by kernel_rfl) (by kernel_rfl : Try.f76.ntmps = 15) (by kernel_rfl : Try.f76.body.bind (strip 15 (fun _ => [])) = some A76) hn h
def A74 : ACode :=
  (.seq (.reg [] [⟨some 1, (.box 24 (.tmp 0)), 0, none⟩,
      ⟨some 2, (.alloc 24), 0, none⟩])
    (.seq (.draw [] [⟨some 3, (.fieldAddr 24 (.tmp 1) 0), 0, none⟩,
      ⟨some 4, (.load 3 (.tmp 3)), 3, none⟩,
      ⟨some 5, (.buildSlice 22 0 #[]), 22, none⟩,
      ⟨some 6, (.fieldAddr 24 (.tmp 1) 1), 0, none⟩,
      ⟨some 7, (.load 22 (.tmp 6)), 22, none⟩,
      ⟨some 8, (.call ⟨(.builtin .append), #[(.tmp 5), (.tmp 7)], #[22, 22]⟩), 22, none⟩,
      ⟨some 9, (.buildSlice 22 0 #[]), 22, none⟩,
      ⟨some 10, (.fieldAddr 24 (.tmp 1) 2), 0, none⟩,
      ⟨some 11, (.load 22 (.tmp 10)), 22, none⟩,
      ⟨some 12, (.call ⟨(.builtin .append), #[(.tmp 9), (.tmp 11)], #[22, 22]⟩), 22, none⟩,
      ⟨some 13, (.buildSlice 22 0 #[]), 22, none⟩,
      ⟨some 14, (.fieldAddr 24 (.tmp 1) 3), 0, none⟩,
      ⟨some 15, (.load 22 (.tmp 14)), 22, none⟩,
      ⟨some 16, (.call ⟨(.builtin .append), #[(.tmp 13), (.tmp 15)], #[22, 22]⟩), 22, none⟩,
      ⟨some 17, (.build 24 #[(0, (.tmp 4)), (1, (.tmp 8)), (2, (.tmp 12)), (3, (.tmp 16))]), 24, none⟩,
      ⟨none, (.store 24 (.tmp 2) (.tmp 17)), 0, none⟩] [(0, 2), (1, 2), (0, 3), (1, 3), (2, 3), (0, 4), (1, 4), (2, 4), (0, 5), (1, 5), (0, 6), (1, 6), (2, 6), (3, 6), (4, 6), (5, 6), (0, 7), (1, 7), (2, 7), (3, 7), (4, 7), (5, 7), (6, 7), (0, 8), (1, 8), (2, 8), (3, 8), (4, 8), (5, 8), (6, 8), (0, 9), (1, 9), (0, 10), (1, 10), (2, 10), (3, 10), (4, 10), (5, 10), (6, 10), (7, 10), (8, 10), (9, 10), (0, 11), (1, 11), (2, 11), (3, 11), (4, 11), (5, 11), (6, 11), (7, 11), (8, 11), (9, 11), (10, 11), (0, 12), (1, 12), (2, 12), (3, 12), (4, 12), (5, 12), (6, 12), (7, 12), (8, 12), (9, 12), (10, 12), (0, 13), (1, 13)])
    .ret))
theorem C74 {args : List AV} {r : AV} (hn : args.length ≤ 18) (h : vc Try.prog T [] A74 (Fin T [(.cell 2 24)] r) ⟨envOf 0 args, []⟩) : CallP Try.prog 74 args r :=
  callP_of tok mixed Try.func74 (by kernel_rfl) (by kernel_rfl) (by kernel_rfl : Try.f74.ntmps = 18) (by kernel_rfl : Try.f74.body.bind (strip 18 (fun _ => [])) = some A74) hn h
def A77 : ACode :=
  (.seq (.reg [] [⟨some 2, (.box 24 (.tmp 0)), 0, none⟩,
      ⟨some 3, (.box 24 (.tmp 1)), 0, none⟩,
      ⟨some 4, (.assign (.const (.bool false))), 4, none⟩])
    (.seq (.reg [] [⟨some 5, (.fieldAddr 24 (.tmp 2) 0), 0, none⟩,
      ⟨some 6, (.load 3 (.tmp 5)), 3, none⟩,
      ⟨some 7, (.fieldAddr 24 (.tmp 3) 0), 0, none⟩,
      ⟨some 8, (.load 3 (.tmp 7)), 3, none⟩,
      ⟨some 9, (.binOp .eql 3 (.tmp 6) (.tmp 8) 3), 4, none⟩,
      ⟨some 10, (.move (.tmp 9)), 4, none⟩,
      ⟨some 11, (.fieldAddr 24 (.tmp 2) 1), 0, some (10, true)⟩,
      ⟨some 12, (.load 22 (.tmp 11)), 22, some (10, true)⟩,
      ⟨some 13, (.fieldAddr 24 (.tmp 3) 1), 0, some (10, true)⟩,
      ⟨some 14, (.load 22 (.tmp 13)), 22, some (10, true)⟩,
      ⟨some 15, (.call ⟨(.value (.func 8)), #[(.tmp 12), (.tmp 14)], #[22, 22]⟩), 4, some (10, true)⟩,
      ⟨some 16, (.pick (.tmp 10) (.tmp 15) (.const (.bool false))), 4, none⟩,
      ⟨some 17, (.move (.tmp 16)), 4, none⟩,
      ⟨some 18, (.fieldAddr 24 (.tmp 2) 2), 0, some (17, true)⟩,
      ⟨some 19, (.load 22 (.tmp 18)), 22, some (17, true)⟩,
      ⟨some 20, (.fieldAddr 24 (.tmp 3) 2), 0, some (17, true)⟩,
      ⟨some 21, (.load 22 (.tmp 20)), 22, some (17, true)⟩,
      ⟨some 22, (.call ⟨(.value (.func 8)), #[(.tmp 19), (.tmp 21)], #[22, 22]⟩), 4, some (17, true)⟩,
      ⟨some 23, (.pick (.tmp 17) (.tmp 22) (.const (.bool false))), 4, none⟩,
      ⟨some 24, (.move (.tmp 23)), 4, none⟩,
      ⟨some 25, (.fieldAddr 24 (.tmp 2) 3), 0, some (24, true)⟩,
      ⟨some 26, (.load 22 (.tmp 25)), 22, some (24, true)⟩,
      ⟨some 27, (.fieldAddr 24 (.tmp 3) 3), 0, some (24, true)⟩,
      ⟨some 28, (.load 22 (.tmp 27)), 22, some (24, true)⟩,
      ⟨some 29, (.call ⟨(.value (.func 8)), #[(.tmp 26), (.tmp 28)], #[22, 22]⟩), 4, some (24, true)⟩,
      ⟨some 30, (.pick (.tmp 24) (.tmp 29) (.const (.bool false))), 4, none⟩,
      ⟨some 4, (.assign (.tmp 30)), 4, none⟩])
    .ret))
theorem C77 {args : List AV} {r : AV} (hn : args.length ≤ 31) (h : vc Try.prog T [] A77 (Fin T [(.tmp 4)] r) ⟨envOf 0 args, []⟩) : CallP Try.prog 77 args r :=
  callP_of tok mixed Try.func77 (by kernel_rfl) (by kernel_rfl) (by kernel_rfl : Try.f77.ntmps = 31) (by kernel_rfl : Try.f77.body.bind (strip 31 (fun _ => [])) = some A77) hn h

end Go.Proofs.Ytkhddecnllcaiaa
end

section
/- Contracts: the document's copy of a system, the system without a rule, and whether two are equal. -/
namespace Go.Proofs.Ytkhddecnllcaiaa
open Go.Abs Go
set_option maxRecDepth 20000
set_option maxHeartbeats 2000000
attribute [local irreducible] PreK CondK CallK CallG CallX LoopK
attribute [local simp] avsEq avEq akind teq vkind vEq

theorem rcopy_c (r : Rule) (h : r.small) : CallP Try.prog 74 [ruleV r] (ruleV r) := by
  refine C74 (by simp) ?_
  obtain ⟨k1, k2, k3⟩ := h
  simp [A74]
  try simp 
  repeat (refine PreK.intro (by first | omega | (intros; first | omega | (refine ⟨by omega, ?_⟩; simp_all; done) | (simp_all; done) | (simp_all; omega))) fun _ => ?_; (try simp ))
theorem rCopy_c (s : List Rule) (h : Sys.small s) : CallP Try.prog 37 [rulesV s] (rulesV s) := by
  refine C37 (by simp) ?_
  have hsl := h.1
  simp [A37]
  refine LoopK.by (ι := Nat) (fun i => ⟨[(4, iv i), (3, .sl 3 (i + 1) 0 i), (0, rulesV s)], [(3, some ⟨4, (s.take i).map ruleV, i + 1, false⟩)]⟩) (fun i => s.length - i) (fun i => i ≤ s.length) 0 (Nat.zero_le _) (by simp) ?_
  intro i Q' hi hq he hr
  try simp 
  refine CondK.intro (fun h1 => ?_) (fun h1 => ?_)
  · simp at h1
    have hmi : min i s.length = i := by omega
    have hlt : ¬ i < min i s.length := by omega
    try simp [h1, hmi]
    repeat' (first
      | (refine CallX.pure (rcopy_c (el s i) (h.el h1)) (by simp) (by simp) ?_; try simp [h1, hmi])
      | (refine CallK.intro (rcopy_c (el s i) (h.el h1)) (by simp) (by simp) ?_; try simp [h1, hmi])
      | (refine CallG.intro (fun _ => rcopy_c (el s i) (h.el h1)) (by simp) (by simp) ?_; try simp [h1, hmi])
      | ((with_reducible refine PreK.intro ?_ ?_); (next => (first | omega | (intros; first | omega | (refine ⟨by omega, ?_⟩; repeat (first | assumption | constructor)) | assumption))); intro _; try simp [h1, hmi])
      | fail)
    refine hq (i + 1) _ (by omega) (by omega) ?_
    have e2 : List.take (i + 1) (s.map ruleV) = List.take i (s.map ruleV) ++ [ruleV (el s i)] := by rw [← List.map_take, ← List.map_take, take_succ s i h1]; simp
    simp only [ruleV, iv, ints] at e2
    simp [List.take_take, e2, hmi]
  · simp at h1
    have hie : i = s.length := by omega
    subst hie
    try simp 
    apply he
    try simp 
    repeat' (first
      | ((with_reducible refine PreK.intro ?_ ?_); (next => (first | omega | (intros; first | omega | (refine ⟨by omega, ?_⟩; repeat (first | assumption | constructor)) | assumption))); intro _; try simp )
      | fail)
theorem rsame2_c (a b : Rule) (h : a.small) : CallP Try.prog 77 [ruleV a, ruleV b] (bv (decide (a = b))) := by
  refine C77 (by simp) ?_
  obtain ⟨k1, k2, k3⟩ := h
  have h1 := same1_c a.to b.to (by simp only [big]; omega)
  have h2 := same1_c a.left b.left (by simp only [big]; omega)
  have h3 := same1_c a.right b.right (by simp only [big]; omega)
  have hd : decide (a = b) = (decide (a.frm = b.frm) && decide (a.to = b.to) && decide (a.left = b.left) && decide (a.right = b.right)) := by
    obtain ⟨a1, a2, a3, a4⟩ := a
    obtain ⟨b1, b2, b3, b4⟩ := b
    simp [Bool.and_assoc]
  rw [hd]
  simp [A77]
  try simp 
  repeat (refine PreK.intro (by first | omega | (intros; first | omega | (refine ⟨by omega, ?_⟩; simp_all; done) | (simp_all; done) | (simp_all; omega))) fun _ => ?_; (try simp ))
  by_cases e1 : a.frm = b.frm
  · try simp [e1]
    repeat (refine PreK.intro (by first | omega | (intros; first | omega | (refine ⟨by omega, ?_⟩; simp_all; done) | (simp_all; done) | (simp_all; omega))) fun _ => ?_; (try simp [e1]))
    refine CallG.intro (fun _ => by simpa using h1) (by simp) (by simp) ?_
    try simp [e1]
    repeat (refine PreK.intro (by first | omega | (intros; first | omega | (refine ⟨by omega, ?_⟩; simp_all; done) | (simp_all; done) | (simp_all; omega))) fun _ => ?_; (try simp [e1]))
    by_cases e2 : a.to = b.to
    · try simp [e1, e2]
      repeat (refine PreK.intro (by first | omega | (intros; first | omega | (refine ⟨by omega, ?_⟩; simp_all; done) | (simp_all; done) | (simp_all; omega))) fun _ => ?_; (try simp [e1, e2]))
      refine CallG.intro (fun _ => by simpa using h2) (by simp) (by simp) ?_
      try simp [e1, e2]
      repeat (refine PreK.intro (by first | omega | (intros; first | omega | (refine ⟨by omega, ?_⟩; simp_all; done) | (simp_all; done) | (simp_all; omega))) fun _ => ?_; (try simp [e1, e2]))
      by_cases e3 : a.left = b.left
      · try simp [e1, e2, e3]
        repeat (refine PreK.intro (by first | omega | (intros; first | omega | (refine ⟨by omega, ?_⟩; simp_all; done) | (simp_all; done) | (simp_all; omega))) fun _ => ?_; (try simp [e1, e2, e3]))
        refine CallG.intro (fun _ => by simpa using h3) (by simp) (by simp) ?_
        try simp [e1, e2, e3]
        repeat (refine PreK.intro (by first | omega | (intros; first | omega | (refine ⟨by omega, ?_⟩; simp_all; done) | (simp_all; done) | (simp_all; omega))) fun _ => ?_; (try simp [e1, e2, e3]))
      · try simp [e1, e2, e3]
        repeat (refine PreK.intro (by first | omega | (intros; first | omega | (refine ⟨by omega, ?_⟩; simp_all; done) | (simp_all; done) | (simp_all; omega))) fun _ => ?_; (try simp [e1, e2, e3]))
        refine CallG.intro (r := bv true) (fun hh => by cases hh) (by simp) (by simp) ?_
        try simp [e1, e2, e3]
        repeat (refine PreK.intro (by first | omega | (intros; first | omega | (refine ⟨by omega, ?_⟩; simp_all; done) | (simp_all; done) | (simp_all; omega))) fun _ => ?_; (try simp [e1, e2, e3]))
    · try simp [e1, e2]
      repeat (refine PreK.intro (by first | omega | (intros; first | omega | (refine ⟨by omega, ?_⟩; simp_all; done) | (simp_all; done) | (simp_all; omega))) fun _ => ?_; (try simp [e1, e2]))
      refine CallG.intro (r := bv true) (fun hh => by cases hh) (by simp) (by simp) ?_
      try simp [e1, e2]
      repeat (refine PreK.intro (by first | omega | (intros; first | omega | (refine ⟨by omega, ?_⟩; simp_all; done) | (simp_all; done) | (simp_all; omega))) fun _ => ?_; (try simp [e1, e2]))
      refine CallG.intro (r := bv true) (fun hh => by cases hh) (by simp) (by simp) ?_
      try simp [e1, e2]
      repeat (refine PreK.intro (by first | omega | (intros; first | omega | (refine ⟨by omega, ?_⟩; simp_all; done) | (simp_all; done) | (simp_all; omega))) fun _ => ?_; (try simp [e1, e2]))
  · try simp [e1]
    repeat (refine PreK.intro (by first | omega | (intros; first | omega | (refine ⟨by omega, ?_⟩; simp_all; done) | (simp_all; done) | (simp_all; omega))) fun _ => ?_; (try simp [e1]))
    refine CallG.intro (r := bv true) (fun hh => by cases hh) (by simp) (by simp) ?_
    try simp [e1]
    repeat (refine PreK.intro (by first | omega | (intros; first | omega | (refine ⟨by omega, ?_⟩; simp_all; done) | (simp_all; done) | (simp_all; omega))) fun _ => ?_; (try simp [e1]))
    refine CallG.intro (r := bv true) (fun hh => by cases hh) (by simp) (by simp) ?_
    try simp [e1]
    repeat (refine PreK.intro (by first | omega | (intros; first | omega | (refine ⟨by omega, ?_⟩; simp_all; done) | (simp_all; done) | (simp_all; omega))) fun _ => ?_; (try simp [e1]))
    refine CallG.intro (r := bv true) (fun hh => by cases hh) (by simp) (by simp) ?_
    try simp [e1]
    repeat (refine PreK.intro (by first | omega | (intros; first | omega | (refine ⟨by omega, ?_⟩; simp_all; done) | (simp_all; done) | (simp_all; omega))) fun _ => ?_; (try simp [e1]))
def sameF : List Rule → List Rule → Bool
  | [], [] => true
  | a :: l, b :: m => if a = b then sameF l m else false
  | _, _ => false
theorem sameF_eq : ∀ l m : List Rule, sameF l m = decide (l = m)
  | [], [] => rfl
  | a :: l, b :: m => by rw [sameF, sameF_eq l m]; by_cases h : a = b <;> simp [h]
  | [], _ :: _ => rfl
  | _ :: _, [] => rfl
theorem rSame_c (a b : List Rule) (h : Sys.small a) : CallP Try.prog 39 [rulesV a, rulesV b] (bv (decide (a = b))) := by
  refine C39 (by simp) ?_
  have hal := h.1
  rw [← sameF_eq]
  generalize hR : sameF a b = R
  simp [A39]
  try simp 
  repeat (refine PreK.intro (by first | omega | (intros; first | omega | (refine ⟨by omega, ?_⟩; simp_all; done) | (simp_all; done) | (simp_all; omega))) fun _ => ?_; (try simp ))
  refine CondK.intro (fun h0 => ?_) (fun h0 => ?_)
  · simp at h0
    have : R = false := by
      rw [← hR, sameF_eq]
      simp; intro e; rw [e] at h0; exact h0 rfl
    subst this
    try simp 
    repeat (refine PreK.intro (by first | omega | (intros; first | omega | (refine ⟨by omega, ?_⟩; simp_all; done) | (simp_all; done) | (simp_all; omega))) fun _ => ?_; (try simp ))
  · simp at h0
    try simp 
    repeat (refine PreK.intro (by first | omega | (intros; first | omega | (refine ⟨by omega, ?_⟩; simp_all; done) | (simp_all; done) | (simp_all; omega))) fun _ => ?_; (try simp ))
    refine LoopK.by (ι := Nat) (fun i => ⟨[(5, iv i), (0, rulesV a), (1, rulesV b)], []⟩) (fun i => a.length - i) (fun i => i ≤ a.length ∧ sameF (a.drop i) (b.drop i) = R) 0 ⟨Nat.zero_le _, by simpa using hR⟩ (by simp) ?_
    intro i Q' ⟨hi, hc⟩ hq he hr
    try simp 
    refine CondK.intro (fun h1 => ?_) (fun h1 => ?_)
    · simp at h1
      have h1b : i < b.length := by omega
      rw [drop_cons a i h1, drop_cons b i h1b, sameF] at hc
      try simp [h1, h1b]
      repeat (refine PreK.intro (by first | omega | (intros; first | omega | (refine ⟨by omega, ?_⟩; simp_all; done) | (simp_all; done) | (simp_all; omega))) fun _ => ?_; (try simp [h1, h1b]))
      refine CallK.intro (by simpa using rsame2_c (el a i) (el b i) (h.el h1)) (by simp) (by simp) ?_
      try simp [h1, h1b]
      try simp [h1, h1b]
      repeat (refine PreK.intro (by first | omega | (intros; first | omega | (refine ⟨by omega, ?_⟩; simp_all; done) | (simp_all; done) | (simp_all; omega))) fun _ => ?_; (try simp [h1, h1b]))
      refine CondK.intro (fun h2 => ?_) (fun h2 => ?_)
      · have hne : ¬ el a i = el b i := by (try simp at h2); simpa using h2
        rw [if_neg hne] at hc
        subst hc
        try simp 
        apply hr
        try simp 
      · have heq : el a i = el b i := by (try simp at h2); simpa using h2
        rw [if_pos heq] at hc
        try simp 
        repeat (refine PreK.intro (by first | omega | (intros; first | omega | (refine ⟨by omega, ?_⟩; simp_all; done) | (simp_all; done) | (simp_all; omega))) fun _ => ?_; (try simp ))
        exact hq (i + 1) _ ⟨by omega, hc⟩ (by omega) (by simp)
    · simp at h1
      have hie : i = a.length := by omega
      subst hie
      rw [List.drop_eq_nil_of_le (by omega), List.drop_eq_nil_of_le (by omega), sameF] at hc
      subst hc
      try simp 
      apply he
      try simp 
def WithoutL (s : List Rule) (k : Int) : List Rule × Int := if sysErr s ≠ 0 then ([], sysErr s) else if (decide (0 ≤ k) && decide (k ≤ (s.length : Int) - 1)) = false then ([], 4) else (s.eraseIdx k.toNat, 0)
theorem rwithin_c (n lo hi : Int) : CallP Try.prog 76 [iv n, iv lo, iv hi] (bv (decide (lo ≤ n) && decide (n ≤ hi))) := by
  refine C76 (by simp) ?_
  simp [A76]
  try simp 
  repeat (refine PreK.intro (by first | omega | (intros; first | omega | (refine ⟨by omega, ?_⟩; simp_all; done) | (simp_all; done) | (simp_all; omega))) fun _ => ?_; (try simp ))
theorem rWithout_c (s : List Rule) (k : Int) (h : Sys.small s) : CallP Try.prog 38 [rulesV s, iv k] (.tup [rulesV (WithoutL s k).1, iv (WithoutL s k).2]) := by
  refine C38 (by simp) ?_
  have hsl := h.1
  simp [A38]
  try simp 
  repeat' (first
    | (refine CallX.pure (rsValidate_c s h) (by simp) (by simp) ?_; try simp )
    | (refine CallK.intro (rsValidate_c s h) (by simp) (by simp) ?_; try simp )
    | (refine CallG.intro (fun _ => rsValidate_c s h) (by simp) (by simp) ?_; try simp )
    | ((with_reducible refine PreK.intro ?_ ?_); (next => (first | omega | (intros; first | omega | (refine ⟨by omega, ?_⟩; repeat (first | assumption | constructor)) | assumption))); intro _; try simp )
    | fail)
  refine CondK.intro (fun h1 => ?_) (fun h1 => ?_)
  · simp at h1
    simp [WithoutL, h1]
  · simp at h1
    try simp 
    repeat' (first
      | (refine CallX.pure (rwithin_c k 0 ((s.length : Int) - 1)) (by simp) (by simp) ?_; try simp )
      | (refine CallK.intro (rwithin_c k 0 ((s.length : Int) - 1)) (by simp) (by simp) ?_; try simp )
      | (refine CallG.intro (fun _ => rwithin_c k 0 ((s.length : Int) - 1)) (by simp) (by simp) ?_; try simp )
      | ((with_reducible refine PreK.intro ?_ ?_); (next => (first | omega | (intros; first | omega | (refine ⟨by omega, ?_⟩; repeat (first | assumption | constructor)) | assumption))); intro _; try simp )
      | fail)
    refine CondK.intro (fun h2 => ?_) (fun h2 => ?_)
    · have h2' : (decide (0 ≤ k) && decide (k ≤ (s.length : Int) - 1)) = false := by
        try simp at h2
        simp only [Bool.and_eq_false_iff, decide_eq_false_iff_not]; omega
      have e : WithoutL s k = ([], 4) := by unfold WithoutL; rw [if_neg (by simp [h1]), if_pos h2']
      rw [e]
      try simp 
    · have h2' : (decide (0 ≤ k) && decide (k ≤ (s.length : Int) - 1)) = true := by
        try simp at h2
        simp only [Bool.and_eq_true, decide_eq_true_eq]; omega
      have e : WithoutL s k = (s.eraseIdx k.toNat, 0) := by unfold WithoutL; rw [if_neg (by simp [h1]), if_neg (by rw [h2']; simp)]
      rw [e]
      simp only [Bool.and_eq_true, decide_eq_true_eq] at h2'
      obtain ⟨n, rfl⟩ : ∃ n : Nat, k = (n : Int) := ⟨k.toNat, by omega⟩
      rw [Int.toNat_natCast, List.eraseIdx_eq_take_drop_succ]
      have hn : n < s.length := by omega
      try simp 
      repeat' (first
        | (refine CallX.pure (rCopy_c s h) (by simp) (by simp) ?_; try simp )
        | (refine CallK.intro (rCopy_c s h) (by simp) (by simp) ?_; try simp )
        | (refine CallG.intro (fun _ => rCopy_c s h) (by simp) (by simp) ?_; try simp )
        | ((with_reducible refine PreK.intro ?_ ?_); (next => (first | omega | (intros; first | omega | (refine ⟨by omega, ?_⟩; repeat (first | assumption | constructor)) | assumption))); intro _; try simp )
        | fail)
      try simp [hn]
      repeat (refine PreK.intro (by first | omega | (intros; first | omega | (refine ⟨by omega, ?_⟩; simp_all; done) | (simp_all; done) | (simp_all; omega))) fun _ => ?_; (try simp [hn]))
      by_cases hl : (n = 0 ∨ s = []) ∨ n + 1 < s.length
      · try simp [hn, hl]
        repeat (refine PreK.intro (by first | omega | (intros; first | omega | (refine ⟨by omega, ?_⟩; simp_all; done) | (simp_all; done) | (simp_all; omega))) fun _ => ?_; (try simp [hn, hl]))
        exact List.take_of_length_le (by simp)
      · have hd : List.drop (n + 1) s = [] := List.drop_eq_nil_of_le (by omega)
        try simp [hn, hd, hl]
        repeat (refine PreK.intro (by first | omega | (intros; first | omega | (refine ⟨by omega, ?_⟩; simp_all; done) | (simp_all; done) | (simp_all; omega))) fun _ => ?_; (try simp [hn, hd, hl]))
        omega
def partB (a b : List Word) : Bool := a.all fun x => b.any fun y => decide (x = y)
theorem part_c (a b : List Word) (ha : a.length ≤ 1000) (hb : b.length ≤ 1000) (hwa : ∀ x ∈ a, x.length ≤ 1000) : CallP Try.prog 40 [wordsV a, wordsV b] (bv (partB a b)) := by
  refine C40 (by simp) ?_
  generalize hR : partB a b = R
  unfold partB at hR
  simp [A40]
  refine LoopK.by (fun i : Nat => ⟨[(5, iv i), (0, wordsV a), (1, wordsV b)], []⟩) (fun i => a.length - i) (fun i => i ≤ a.length ∧ ((a.drop i).all fun x => b.any fun y => decide (x = y)) = R) 0 (by simpa using hR) (by simp) ?_
  intro i Q' ⟨hi, hc⟩ hq he hr
  try simp 
  refine CondK.intro (fun h1 => ?_) (fun h1 => ?_)
  · simp at h1
    have hxl := hwa _ (el_mem_of a i h1)
    rw [drop_cons a i h1, List.all_cons] at hc
    generalize hB : (b.any fun y => decide (el a i = y)) = B at hc
    try simp 
    refine LoopK.by (ι := Nat × Bool) (fun x => ⟨[(7, iv x.1), (6, bv x.2), (5, iv i), (0, wordsV a), (1, wordsV b)], []⟩) (fun x => b.length - x.1) (fun x => x.1 ≤ b.length ∧ (x.2 || ((b.drop x.1).any fun y => decide (el a i = y))) = B) (0, false) (by simpa using hB) (by simp) ?_
    intro ⟨k, d⟩ Q'' ⟨hk, hd⟩ hq' he' hr'
    dsimp only at hk hd
    try simp 
    refine CondK.intro (fun h2 => ?_) (fun h2 => ?_)
    · simp at h2
      rw [drop_cons b k h2, List.any_cons] at hd
      cases d
      · try simp [h1, h2]
        repeat (refine PreK.intro (by first | omega | (intros; first | omega | (refine ⟨by omega, ?_⟩; simp_all; done) | (simp_all; done) | (simp_all; omega))) fun _ => ?_; (try simp [h1, h2]))
        refine CallG.intro (r := bv (decide (el a i = el b k))) (fun _ => by simpa [h1, h2] using same1_c (el a i) (el b k) (big_of hxl)) (by simp) (by simp) ?_
        try simp 
        try simp 
        repeat (refine PreK.intro (by first | omega | (intros; first | omega | (refine ⟨by omega, ?_⟩; simp_all; done) | (simp_all; done) | (simp_all; omega))) fun _ => ?_; (try simp ))
        exact hq' (k + 1, decide (el a i = el b k)) _ ⟨by dsimp only; omega, by simpa using hd⟩ (by dsimp only; omega) (by simp)
      · try simp [h1, h2]
        repeat (refine PreK.intro (by first | omega | (intros; first | omega | (refine ⟨by omega, ?_⟩; simp_all; done) | (simp_all; done) | (simp_all; omega))) fun _ => ?_; (try simp [h1, h2]))
        refine CallG.intro (r := bv true) (fun hh => by cases hh) (by simp) (by simp) ?_
        try simp 
        try simp 
        repeat (refine PreK.intro (by first | omega | (intros; first | omega | (refine ⟨by omega, ?_⟩; simp_all; done) | (simp_all; done) | (simp_all; omega))) fun _ => ?_; (try simp ))
        exact hq' (k + 1, true) _ ⟨by dsimp only; omega, by simpa using hd⟩ (by dsimp only; omega) (by simp)
    · simp at h2
      rw [List.drop_eq_nil_of_le (by omega)] at hd
      simp at hd
      subst hd
      try simp 
      apply he'
      try simp 
      repeat' (first
        | ((with_reducible refine PreK.intro ?_ ?_); (next => (first | omega | (intros; first | omega | (refine ⟨by omega, ?_⟩; repeat (first | assumption | constructor)) | assumption))); intro _; try simp )
        | fail)
      refine CondK.intro (fun h3 => ?_) (fun h3 => ?_)
      · simp at h3
        rw [h3] at hc
        simp at hc
        try simp 
        apply hr
        simp [← hc]
      · simp at h3
        rw [h3] at hc
        simp only [Bool.true_and] at hc
        try simp 
        repeat' (first
          | ((with_reducible refine PreK.intro ?_ ?_); (next => (first | omega | (intros; first | omega | (refine ⟨by omega, ?_⟩; repeat (first | assumption | constructor)) | assumption))); intro _; try simp )
          | fail)
        exact hq (i + 1) _ ⟨by omega, hc⟩ (by omega) (by simp)
  · simp at h1
    rw [List.drop_eq_nil_of_le (by omega)] at hc
    simp at hc
    try simp 
    apply he
    simp [← hc]
end Go.Proofs.Ytkhddecnllcaiaa
end

section
/- Plain: where two derivations differ first; equal ones end alike. -/
namespace Go.Proofs.Ytkhddecnllcaiaa
open Go.Abs Go

end Go.Proofs.Ytkhddecnllcaiaa
end

section
/- Contracts: where derivations differ, and the statement OrderDiffers. -/
namespace Go.Proofs.Ytkhddecnllcaiaa
open Go.Abs Go
attribute [local simp] avsEq avEq akind teq vkind vEq

end Go.Proofs.Ytkhddecnllcaiaa
end

section
/- Contracts: all words; the words that have a form. -/
namespace Go.Proofs.Ytkhddecnllcaiaa
open Go.Abs Go
attribute [local simp] avsEq avEq akind teq vkind vEq

end Go.Proofs.Ytkhddecnllcaiaa
end

section
/- Contracts: lists of words in order; Bases on both sides, and the statement OrderBases. -/
namespace Go.Proofs.Ytkhddecnllcaiaa
open Go.Abs Go
set_option maxRecDepth 20000
set_option maxHeartbeats 2000000
attribute [local irreducible] PreK CondK CallK CallG CallX LoopK
attribute [local simp] avsEq avEq akind teq vkind vEq

end Go.Proofs.Ytkhddecnllcaiaa
end

section
/- Contracts: the statement FeedSteps. -/
namespace Go.Proofs.Ytkhddecnllcaiaa
open Go.Abs Go
attribute [local simp] avsEq avEq akind teq vkind vEq

end Go.Proofs.Ytkhddecnllcaiaa
end

section
/- Contracts: the statement FeedSteps as a contract. -/
namespace Go.Proofs.Ytkhddecnllcaiaa
open Go.Abs Go
set_option maxRecDepth 20000
set_option maxHeartbeats 2000000
attribute [local irreducible] PreK CondK CallK CallG CallX LoopK
attribute [local simp] avsEq avEq akind teq vkind vEq

theorem large2_c (l : List Int) : CallP Try.prog 44 [ints l] (bv (decide (100 < l.length))) := by
  refine C44 (by simp) ?_
  simp [A44]
  omega
theorem large3_c (l : List Int) : CallP Try.prog 35 [ints l] (bv (decide (100 < l.length))) := by
  refine C35 (by simp) ?_
  simp [A35]
  omega
def longT (r : Rule) : Bool := decide (100 < r.to.length) || (decide (100 < r.left.length) || decide (100 < r.right.length))
theorem long2_c (r : Rule) : CallP Try.prog 9 [ruleV r] (bv (longT r)) := by
  refine C9 (by simp) ?_
  simp [A9]
  try simp 
  repeat' (first
    | (refine CallX.pure (large2_c r.to) (by simp) (by simp) ?_; try simp )
    | (refine CallK.intro (large2_c r.to) (by simp) (by simp) ?_; try simp )
    | (refine CallG.intro (fun _ => large2_c r.to) (by simp) (by simp) ?_; try simp )
    | (refine CallX.pure (large2_c r.left) (by simp) (by simp) ?_; try simp )
    | (refine CallK.intro (large2_c r.left) (by simp) (by simp) ?_; try simp )
    | (refine CallG.intro (fun _ => large2_c r.left) (by simp) (by simp) ?_; try simp )
    | (refine CallX.pure (large2_c r.right) (by simp) (by simp) ?_; try simp )
    | (refine CallK.intro (large2_c r.right) (by simp) (by simp) ?_; try simp )
    | (refine CallG.intro (fun _ => large2_c r.right) (by simp) (by simp) ?_; try simp )
    | ((with_reducible refine PreK.intro ?_ ?_); (next => (first | omega | (intros; first | omega | (refine ⟨by omega, ?_⟩; repeat (first | assumption | constructor)) | assumption))); intro _; try simp )
    | fail)
  simp [longT, Bool.or_assoc]
def longS (s : List Rule) : Bool := decide (50 < s.length) || s.any longT
theorem long3_c (s : List Rule) (h : s.length ≤ big) : CallP Try.prog 18 [rulesV s] (bv (longS s)) := by
  refine C18 (by simp) ?_
  generalize hR : longS s = R
  unfold longS at hR
  simp only [big] at h
  simp [A18]
  refine CondK.intro (fun h1 => ?_) (fun h1 => ?_)
  · simp at h1
    simp [show 50 < s.length by omega] at hR
    simp [← hR]
  · simp at h1
    simp only [show ¬ 50 < s.length by omega, decide_false, Bool.false_or] at hR
    try simp 
    refine LoopK.by (fun i : Nat => ⟨[(3, iv i), (0, rulesV s)], []⟩) (fun i => s.length - i) (fun i => i ≤ s.length ∧ (s.drop i).any longT = R) 0 (by simpa using hR) (by simp) ?_
    intro i Q' ⟨hi, hc⟩ hq he hr
    try simp 
    refine CondK.intro (fun h2 => ?_) (fun h2 => ?_)
    · simp at h2
      rw [drop_cons s i h2, List.any_cons] at hc
      try simp [h2]
      repeat' (first
        | (refine CallX.pure (long2_c (el s i)) (by simp) (by simp) ?_; try simp [h2])
        | (refine CallK.intro (long2_c (el s i)) (by simp) (by simp) ?_; try simp [h2])
        | (refine CallG.intro (fun _ => long2_c (el s i)) (by simp) (by simp) ?_; try simp [h2])
        | ((with_reducible refine PreK.intro ?_ ?_); (next => (first | omega | (intros; first | omega | (refine ⟨by omega, ?_⟩; repeat (first | assumption | constructor)) | assumption))); intro _; try simp [h2])
        | fail)
      refine CondK.intro (fun h3 => ?_) (fun h3 => ?_)
      · rw [h3] at hc
        try simp 
        apply hr
        simp [← hc]
      · rw [h3] at hc
        try simp 
        repeat' (first
          | ((with_reducible refine PreK.intro ?_ ?_); (next => (first | omega | (intros; first | omega | (refine ⟨by omega, ?_⟩; repeat (first | assumption | constructor)) | assumption))); intro _; try simp )
          | fail)
        exact hq (i + 1) _ ⟨by omega, by simpa using hc⟩ (by omega) (by simp)
    · simp at h2
      rw [List.drop_eq_nil_of_le (by omega)] at hc
      try simp 
      apply he
      simp [← hc]
theorem longS_small {s : List Rule} (h : longS s = false) : Sys.small s := by
  unfold longS at h
  simp only [Bool.or_eq_false_iff, decide_eq_false_iff_not, List.any_eq_false] at h
  refine ⟨by omega, fun r hr => ?_⟩
  have := h.2 r hr
  unfold longT at this
  simp only [Bool.or_eq_true, decide_eq_true_eq, not_or] at this
  exact ⟨by omega, by omega, by omega⟩
end Go.Proofs.Ytkhddecnllcaiaa
end

section
/- Plain: words put in order one by one, and sorted all at once, are the same. -/
namespace Go.Proofs.Ytkhddecnllcaiaa
open Go.Abs Go

/-- A word put in its place; left out if it is there. -/
def insM (x : Word) : List Word → List Word
  | [] => [x]
  | y :: l => if bef y x then y :: insM x l else if y = x then y :: l else x :: y :: l
def insA : List Word → List Word → List Word
  | acc, [] => acc
  | acc, x :: l => insA (insM x acc) l
theorem compF_spec : ∀ (p : Word) (l : List Word), inOrder (p :: l) → sortedW (p :: compF p l) ∧ ∀ z, z ∈ p :: compF p l ↔ z ∈ p :: l
  | p, [], _ => by simp [compF, sortedW]
  | p, y :: l, h => by
    unfold inOrder at h
    rw [List.pairwise_cons] at h
    rw [compF]
    split
    · rename_i e
      subst e
      obtain ⟨h1, h2⟩ := compF_spec y l h.2
      exact ⟨h1, fun z => by rw [h2]; simp⟩
    · rename_i e
      obtain ⟨h1, h2⟩ := compF_spec y l h.2
      have hpy : bef p y = true := by
        rcases bef_total e with k | k
        · rw [h.1 y (by simp)] at k; cases k
        · exact k
      refine ⟨?_, fun z => ?_⟩
      · have h3 := h1
        unfold sortedW at h1 ⊢
        rw [List.pairwise_cons] at h1 ⊢
        refine ⟨fun z hz => ?_, h3⟩
        rcases List.mem_cons.1 hz with rfl | hz
        · exact hpy
        · exact bef_trans hpy (h1.1 z hz)
      · rw [List.mem_cons, h2, ← List.mem_cons]
theorem uniq_sorted (l : List Word) : sortedW (uniq l) ∧ ∀ z, z ∈ uniq l ↔ z ∈ l := by
  unfold uniq
  have ho := sortW_order l
  have hm : ∀ z, z ∈ sortW l ↔ z ∈ l := fun z => (sortW_perm l).mem_iff
  generalize sortW l = m at ho hm
  cases m with
  | nil => exact ⟨List.Pairwise.nil, fun z => by rw [← hm]; simp [compW]⟩
  | cons x m =>
    obtain ⟨h1, h2⟩ := compF_spec x m ho
    exact ⟨h1, fun z => by rw [← hm]; exact h2 z⟩
end Go.Proofs.Ytkhddecnllcaiaa
end

section
/- Plain: the two searches, the program's and the reference's, find the same words. -/
namespace Go.Proofs.Ytkhddecnllcaiaa
open Go.Abs Go

theorem el_app_left {α : Type} [Inhabited α] (a b : List α) {i : Nat} (h : i < a.length) : el (a ++ b) i = el a i := by
  unfold el; rw [List.getD_eq_getElem?_getD, List.getD_eq_getElem?_getD, List.getElem?_append_left h]
theorem el_app_mid {α : Type} [Inhabited α] (a : List α) (x : α) : el (a ++ [x]) a.length = x := by
  unfold el; simp
theorem el_mapG {α β : Type} [Inhabited α] [Inhabited β] (f : α → β) (l : List α) {k : Nat} (h : k < l.length) : el (l.map f) k = f (el l k) := by
  rw [el_eq _ _ (by simpa using h), el_eq _ _ h]; simp
/-! ### the program's search -/
def nxP (s : List Rule) (v : Word) : List Word := (movesM s v).map (·.word)
/-- What whence and by which step say. -/
structure GrD (s : List Rule) (g : Gr) (ws : List WN) : Prop where
  words : g.ws = ws.map (·.1)
  frm : g.frm.length = ws.length
  stp : g.stp.length = ws.length
  root : 0 < ws.length → el g.frm 0 = -1
  back : ∀ j, 0 < j → j < ws.length → ∃ i : Nat, el g.frm j = (i : Int) ∧ i < j ∧ (el ws j).2 = (el ws i).2 + 1 ∧ (⟨el g.stp j, (el ws j).1⟩ : Move) ∈ movesM s (el ws i).1
theorem addG_F {s : List Rule} {i : Nat} : ∀ {l : List Move} {g : Gr} {ws : List WN}, GrD s g ws → i < ws.length → (∀ m ∈ l, m ∈ movesM s (el ws i).1) →
    match addG i g l, addF ((el ws i).2 + 1) ws (l.map (·.word)) with
    | some g', some ws' => GrD s g' ws'
    | none, none => True
    | _, _ => False
  | [], g, ws, h, _, _ => by simpa [addG, addF] using h
  | m :: l, g, ws, h, hi, hl => by
    rw [addG, List.map_cons, addF, h.words]
    by_cases hm : m.word ∈ ws.map (·.1)
    · rw [if_pos hm, if_pos hm]
      exact addG_F h hi fun x hx => hl x (by simp [hx])
    · rw [if_neg hm, if_neg hm, List.length_map]
      by_cases h3 : ws.length = 300
      · rw [if_pos h3, if_pos h3]; trivial
      · rw [if_neg h3, if_neg h3]
        have e : el (ws ++ [(m.word, (el ws i).2 + 1)]) i = el ws i := el_app_left _ _ hi
        have hn : GrD s ⟨ws.map (·.1) ++ [m.word], g.frm ++ [(i : Int)], g.stp ++ [m.step]⟩ (ws ++ [(m.word, (el ws i).2 + 1)]) := by
          refine ⟨by simp, by simp [h.frm], by simp [h.stp], fun _ => ?_, fun j h0 hj => ?_⟩
          · dsimp only
            rw [el_app_left _ _ (by have := h.frm; omega)]
            exact h.root (by omega)
          · dsimp only
            by_cases hjl : j < ws.length
            · obtain ⟨k, h1, h2, h4, h5⟩ := h.back j h0 hjl
              refine ⟨k, ?_, h2, ?_, ?_⟩
              · rw [el_app_left _ _ (by have := h.frm; omega)]; exact h1
              · rw [el_app_left _ _ hjl, el_app_left _ _ (by omega)]; exact h4
              · rw [el_app_left _ _ hjl, el_app_left _ _ (by omega), el_app_left _ _ (by have := h.stp; omega)]; exact h5
            · have hjl : j = ws.length := by simp at hj; omega
              subst hjl
              refine ⟨i, ?_, hi, ?_, ?_⟩
              · rw [← h.frm, el_app_mid]
              · rw [el_app_mid, e]
              · rw [el_app_mid, e, ← h.stp, el_app_mid]
                exact hl m (by simp)
        have ih := addG_F (i := i) (l := l) hn (by simp; omega) (fun x hx => by rw [e]; exact hl x (by simp [hx]))
        rw [e] at ih
        exact ih
theorem closeG_F {s : List Rule} : ∀ (n i : Nat) {g : Gr} {ws : List WN}, GrD s g ws →
    match closeG s n i g, closeF (nxP s) n i ws with
    | some g', some ws' => GrD s g' ws'
    | none, none => True
    | _, _ => False
  | 0, i, g, ws, h => by simpa [closeG, closeF] using h
  | n + 1, i, g, ws, h => by
    rw [closeG, closeF]
    have hl : g.ws.length = ws.length := by rw [h.words]; simp
    by_cases hi : i < ws.length
    · rw [if_pos (by omega), if_pos hi]
      have ew : el g.ws i = (el ws i).1 := by rw [h.words, el_mapG _ _ hi]
      have ha := addG_F (s := s) (i := i) (l := movesM s (el ws i).1) h hi (fun m hm => hm)
      rw [ew]
      unfold nxP at *
      cases h1 : addG i g (movesM s (el ws i).1) with
      | none =>
        cases h2 : addF ((el ws i).2 + 1) ws ((movesM s (el ws i).1).map (·.word)) with
        | none => trivial
        | some ws' => rw [h1, h2] at ha; exact ha.elim
      | some g' =>
        cases h2 : addF ((el ws i).2 + 1) ws ((movesM s (el ws i).1).map (·.word)) with
        | none => rw [h1, h2] at ha; exact ha.elim
        | some ws' =>
          rw [h1, h2] at ha
          exact closeG_F n (i + 1) ha
    · rw [if_neg (by omega), if_neg hi]
      exact h
theorem reachG_F (s : List Rule) (w : Word) :
    match reachG s w, closeM (nxP s) w with
    | some g', some ws' => GrD s g' ws'
    | none, none => True
    | _, _ => False := by
  refine closeG_F 301 0 ⟨rfl, rfl, rfl, fun _ => rfl, fun j h0 hj => ?_⟩
  simp at hj; omega
/-! ### the reference's search -/
def nxR (s : List Rule) (v : Word) : List Word := insA [] (nxP s v)
structure RG where
  ws : List Word
  nx : List (List Int)
  far : List Int
/-- A list of places of words. -/
def atsOf (ws : List Word) (l : List Int) (m : List Word) : Prop := l.length = m.length ∧ ∀ q, q < m.length → ∃ k : Nat, el l q = (k : Int) ∧ k < ws.length ∧ el ws k = el m q
theorem atsOf.more {ws : List Word} {l : List Int} {m : List Word} (h : atsOf ws l m) (t : List Word) : atsOf (ws ++ t) l m := by
  refine ⟨h.1, fun q hq => ?_⟩
  obtain ⟨k, h1, h2, h3⟩ := h.2 q hq
  exact ⟨k, h1, by simp; omega, by rw [el_app_left _ _ h2]; exact h3⟩
theorem atsOf.push {ws : List Word} {l : List Int} {m : List Word} (h : atsOf ws l m) {k : Nat} (hk : k < ws.length) : atsOf ws (l ++ [(k : Int)]) (m ++ [el ws k]) := by
  refine ⟨by simp [h.1], fun q hq => ?_⟩
  by_cases hq2 : q < m.length
  · obtain ⟨j, h1, h2, h3⟩ := h.2 q hq2
    exact ⟨j, by rw [el_app_left _ _ (by have := h.1; omega)]; exact h1, h2, by rw [el_app_left _ _ hq2]; exact h3⟩
  · have hq3 : q = m.length := by simp at hq; omega
    subst hq3
    exact ⟨k, by rw [← h.1, el_app_mid], hk, by rw [el_app_mid]⟩
/-- What the reference's graph is. -/
structure RGD (s : List Rule) (i : Nat) (g : RG) (ws : List WN) : Prop where
  words : g.ws = ws.map (·.1)
  far : g.far = ws.map fun x => (x.2 : Int)
  num : g.nx.length = i
  nx : ∀ j, j < i → atsOf g.ws (el g.nx j) (nxR s (el g.ws j))
end Go.Proofs.Ytkhddecnllcaiaa
end

section
/- Plain: paths, and the shortest one that a search gives. -/
namespace Go.Proofs.Ytkhddecnllcaiaa
open Go.Abs Go

/-- The steps back from the i-th word to the first one. -/
def backM (g : Gr) : Nat → Nat → List Step
  | 0, _ => []
  | n + 1, i => if el g.frm i < 0 then [] else el g.stp i :: backM g n (el g.frm i).toNat
end Go.Proofs.Ytkhddecnllcaiaa
end

section
/- Plain: a system without a rule. -/
namespace Go.Proofs.Ytkhddecnllcaiaa
open Go.Abs Go

/-- The words to which a rule leads. -/
def wordsR (w : Word) (r : Rule) : List Word := (movesR r w 0 0 (w.length + 1)).map (·.word)
theorem movesR_words (r : Rule) (w : Word) (k j : Nat) : ∀ (n i : Nat), (movesR r w k i n).map (·.word) = (movesR r w j i n).map (·.word)
  | 0, i => rfl
  | n + 1, i => by
    simp only [movesR, List.map_append, movesR_words r w k j n (i + 1)]
    congr 1
    unfold moveAt
    split <;> rfl
theorem movesF_words (w : Word) : ∀ (s : List Rule) (k : Nat), (movesF w k s).map (·.word) = s.flatMap (wordsR w)
  | [], k => rfl
  | r :: s, k => by
    simp only [movesF, List.map_append, List.flatMap_cons, movesF_words w s (k + 1)]
    congr 1
    exact movesR_words r w k 0 _ _
theorem nxP_flat (s : List Rule) (w : Word) : nxP s w = s.flatMap (wordsR w) := movesF_words w s 0
theorem nxP_less {s : List Rule} {k : Nat} {u x : Word} (h : x ∈ nxP (s.eraseIdx k) u) : x ∈ nxP s u := by
  rw [nxP_flat] at h ⊢
  obtain ⟨r, hr, hx⟩ := List.mem_flatMap.1 h
  exact List.mem_flatMap.2 ⟨r, List.mem_of_mem_eraseIdx hr, hx⟩
/-- What is reached by fewer steps is found by fewer. -/
theorem closeM_sub {nx nx' : Word → List Word} {w : Word} {ws : List WN} (h : closeM nx w = some ws) (hsub : ∀ n x, ReachN nx' w n x → ∃ m, ReachN nx w m x) :
    ∃ ws', closeM nx' w = some ws' ∧ ∀ x ∈ ws'.map (·.1), x ∈ ws.map (·.1) := by
  have hc := closeM_some h
  cases h' : closeM nx' w with
  | none =>
    exfalso
    obtain ⟨m, h1, h2, h3⟩ := closeM_none h'
    have := nodup_le' (m := ws.map (·.1)) h1 fun x hx => by
      obtain ⟨k, hk⟩ := h3 x hx
      obtain ⟨j, hj⟩ := hsub k x hk
      obtain ⟨z, hz, e, _⟩ := hc.all j x hj
      exact List.mem_map.2 ⟨z, hz, e⟩
    have hl := hc.len
    rw [List.length_map, h2] at this
    omega
  | some ws' =>
    refine ⟨ws', rfl, fun x hx => ?_⟩
    obtain ⟨y, hy, rfl⟩ := List.mem_map.1 hx
    obtain ⟨j, hj⟩ := hsub _ _ ((closeM_some h').reach y hy)
    obtain ⟨z, hz, e, _⟩ := hc.all j _ hj
    exact List.mem_map.2 ⟨z, hz, e⟩
theorem reachG_sub {s s' : List Rule} {w : Word} {g : Gr} (h : reachG s w = some g) (hsub : ∀ n x, ReachN (nxP s') w n x → ∃ m, ReachN (nxP s) w m x) :
    ∃ g', reachG s' w = some g' ∧ ∀ x ∈ g'.ws, x ∈ g.ws := by
  have h1 := reachG_F s w
  rw [h] at h1
  cases hc : closeM (nxP s) w with
  | none => rw [hc] at h1; exact h1.elim
  | some ws =>
    rw [hc] at h1
    obtain ⟨ws', h2, h3⟩ := closeM_sub hc hsub
    have h4 := reachG_F s' w
    rw [h2] at h4
    cases hg : reachG s' w with
    | none => rw [hg] at h4; exact h4.elim
    | some g' =>
      rw [hg] at h4
      refine ⟨g', rfl, fun x hx => ?_⟩
      rw [h4.words] at hx
      rw [h1.words]
      exact h3 x hx
theorem reach_less {s : List Rule} {k : Nat} {w : Word} : ∀ (n : Nat) (x : Word), ReachN (nxP (s.eraseIdx k)) w n x → ReachN (nxP s) w n x := by
  intro n x h
  induction h with
  | zero => exact .zero
  | succ h hx ih => exact .succ ih (nxP_less hx)
end Go.Proofs.Ytkhddecnllcaiaa
end
