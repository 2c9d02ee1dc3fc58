/- Part 11 of the proof: the value layer and the contracts of the functions that the statement reaches; proved without conditions beyond those each theorem states. -/
import Derived.ProofKit
import Derived.Test.YtphkchjhghdhiaaGreatRows
import Derived.OpenShut
import Derived.JoinedOf
import Derived.Test.YtphkchjhghdhiaaGreatV4
import Derived.Test.YtphkchjhghdhiaaGreatV9
import Derived.Test.YtphkchjhghdhiaaGreatV10
set_option linter.unusedSimpArgs false
set_option linter.unusedVariables false

section
/- The value layer, part 28: what a call's arguments, read as data, are as abstract values. -/
namespace Go.Abs
open Go.RowKit

/-- Cells that hold these values. -/
structure RepL (w : World) (l : List AV) (cs : List Value) : Prop where
  len : cs.length = l.length
  one : ∀ i, i < l.length → (cs.getD i undef).oneCell' = true
  rep : ∀ i, i < l.length → Rep w Noblk Mu.none (l.getD i .junk) (cs.getD i undef)

theorem getD_append_left' {α : Type} {d : α} {p q : List α} {i : Nat} (h : i < p.length) : (p ++ q).getD i d = p.getD i d := by
  simp only [List.getD_eq_getElem?_getD]; rw [List.getElem?_append_left h]
theorem getD_append_right' {α : Type} {d : α} {p q : List α} {i : Nat} (h : p.length ≤ i) : (p ++ q).getD i d = q.getD (i - p.length) d := by
  simp only [List.getD_eq_getElem?_getD]; rw [List.getElem?_append_right h]

theorem RepL.nil {w : World} : RepL w [] [] := ⟨rfl, fun i h => by simp at h, fun i h => by simp at h⟩
theorem RepL.append {w : World} {l l' : List AV} {cs cs' : List Value} (h : RepL w l cs) (h' : RepL w l' cs') : RepL w (l ++ l') (cs ++ cs') := by
  refine ⟨by simp [h.len, h'.len], fun i hi => ?_, fun i hi => ?_⟩
  · by_cases hl : i < l.length
    · rw [getD_append_left' (by rw [h.len]; exact hl)]; exact h.one i hl
    · rw [getD_append_right' (by rw [h.len]; omega), h.len]
      exact h'.one _ (by simp at hi; omega)
  · by_cases hl : i < l.length
    · rw [getD_append_left' (p := l) hl, getD_append_left' (p := cs) (by rw [h.len]; exact hl)]; exact h.rep i hl
    · rw [getD_append_right' (p := l) (by omega), getD_append_right' (p := cs) (by rw [h.len]; omega), h.len]
      exact h'.rep _ (by simp at hi; omega)
theorem RepL.one' {w : World} {a : AV} {v : Value} (h1 : v.oneCell' = true) (h : Rep w Noblk Mu.none a v) : RepL w [a] [v] :=
  ⟨rfl, fun i hi => by have : i = 0 := by simpa using hi
                       subst this; exact h1, fun i hi => by have : i = 0 := by simpa using hi
                                                            subst this; exact h⟩

/-- The element whose cells these are. -/
theorem RepL.elem {w : World} {a : AV} {cs : List Value} {c : Array Value} {sz o : Nat} (h : RepL w (cellsOf a) cs) (hsz : a.width = sz) (hlen : cs.length = sz) (hfit : o + sz ≤ c.size) (hc : ∀ k, k < sz → c.getD (o + k) undef = cs.getD k undef) :
    Rep w Noblk Mu.none a (elemVal a sz c o) := by
  have hone : ∀ {x : AV}, (∀ l, x ≠ .agg l) → x = a → Rep w Noblk Mu.none a (elemVal a sz c o) := by
    intro x hx e
    subst e
    have hw : x.width = 1 := by cases x <;> first | rfl | exact absurd rfl (hx _)
    have hcl : cellsOf x = [x] := by cases x <;> first | rfl | exact absurd rfl (hx _)
    have hev : elemVal x sz c o = c.getD o undef := by cases x <;> first | rfl | exact absurd rfl (hx _)
    rw [hev, ← Nat.add_zero o, hc 0 (by omega)]
    have := h.rep 0 (by rw [hcl]; simp)
    rw [hcl] at this
    exact this
  cases a with
  | agg l =>
    have hl : cs.length = l.length := h.len
    have hw : l.length = sz := hsz
    show Rep w Noblk Mu.none (.agg l) (.agg (c.extract o (o + sz)))
    have hget : ∀ i, i < l.length → (c.extract o (o + sz)).getD i undef = cs.getD i undef := by
      intro i hi
      rw [← hc i (by omega)]
      simp only [Array.getD_eq_getD_getElem?, Array.getElem?_extract]
      rw [if_pos (by omega)]
    refine .agg (by simp; omega) (fun i hi => by rw [hget i hi]; exact h.one i hi) (fun i hi => by rw [hget i hi]; exact h.rep i hi)
  | _ => exact hone (by intro l e; cases e) rfl

section
variable {H : Type} (en : TypeId × Value → H) (P : Program) (W : World)

/-- A type's values, read as data, are f of something. -/
def Reads (t : TypeId) {α : Type} (f : α → AV) : Prop :=
  ∀ (fuel : Nat) (cs : List Value) (x : DataW H × List MemPlace), DataW.trod en P W 0 (fun _ => true) true fuel t cs = some x → (∀ n ∈ x.1.weights P t, n ≤ reachBytes) → ∃ a : α, RepL W (cellsOf (f a)) cs

variable {en P W}

theorem reads_int {t : TypeId} {k : IntKind} (ht : P.underlying t = some (.int k)) : Reads en P W t (fun n : Int => AV.raw (.int k n)) := by
  intro fuel cs x h _
  obtain ⟨n, rfl, _, _⟩ := DataW.trod_int ht h
  exact ⟨n, RepL.one' rfl (.raw rfl)⟩

theorem weightsAll_mem {e : TypeId} : ∀ {l : List (DataW H)} {d : DataW H}, d ∈ l → ∀ n ∈ d.weights P e, n ∈ DataW.weightsAll P e l
  | [], _, h, _, _ => by cases h
  | d0 :: l, d, h, n, hn => by
    simp only [DataW.weightsAll, List.mem_append]
    rcases List.mem_cons.1 h with rfl | h
    · exact .inl hn
    · exact .inr (weightsAll_mem h n hn)

theorem add_zero' (a : Addr) : a.add 0 = a := by simp [Addr.add]
theorem block_of_cell {a : Addr} {v : Value} (h : W.cell? a = some v) : a.spot = none ∧ ∃ c el fr, W.heap[a.block]? = some (.cells c el fr) ∧ c[a.off]? = some v := by
  unfold World.cell? at h
  split at h
  · rename_i c el fr hb
    split at h
    · cases h
    · rename_i hs
      refine ⟨by cases hsp : a.spot <;> simp_all, c, el, fr, hb, h⟩
  · cases h

/-- A slice of what a type's values are. -/
theorem reads_slice {t e : TypeId} {α : Type} {f : α → AV} {sz : Nat} (ht : P.underlying t = some (.slice e)) (hsz : P.cellsOf e = sz) (hpos : 0 < sz) (hby : 0 < P.bytesOf e) (hf : ∀ a, (f a).width = sz) (he : Reads en P W e f) :
    Reads en P W t (fun l : List α => AV.seq sz (l.map f) false) := by
  intro fuel cs x h hwt
  rcases DataW.trod_slice ht h with ⟨rfl, _⟩ | ⟨a, len, cap, elems, rest, n, _, rfl, rfl, _, hlc, hcm, hel, hget, hsp, _⟩
  · exact ⟨[], RepL.one' rfl .nil⟩
  rw [hsz] at hget hsp
  obtain ⟨hrl, hrest⟩ := hsp rfl
  have hwe : ∀ d ∈ elems.map (·.1), ∀ n ∈ d.weights P e, n ≤ reachBytes := by
    intro d hd n hn
    refine hwt n ?_
    simp only [DataW.weights, ht, List.mem_cons, List.mem_append]
    exact .inr (.inl (weightsAll_mem hd n hn))
  have hlenw : len ≤ big := by
    have := hwt ((elems.map (·.1)).length + (rest.map (·.1)).length |> (· * P.bytesOf e)) (by simp [DataW.weights, ht])
    simp only [List.length_map] at this
    have h2 : elems.length ≤ (elems.length + rest.length) * P.bytesOf e := Nat.le_trans (Nat.le_add_right _ _) (Nat.le_mul_of_pos_right _ hby)
    have h3 : reachBytes < 2 ^ 47 := reachBytes_lt
    unfold big
    omega
  by_cases hcap : cap = 0
  · subst hcap
    have : len = 0 := by omega
    subst this
    exact ⟨[], RepL.one' rfl .nil⟩
  -- each element's cells
  have heach : ∀ i, i < len → ∃ ci, W.cells? 0 (a.add (i * sz)) sz = some ci ∧ ∃ y : α, RepL W (cellsOf (f y)) ci := by
    intro i hi
    have hgi := hget i hi
    rw [List.getElem?_eq_getElem (by omega)] at hgi
    obtain ⟨ci, hci, htr⟩ := Option.bind_eq_some_iff.1 hgi
    exact ⟨ci, hci, he n ci _ htr (hwe _ (List.mem_map.2 ⟨_, List.getElem_mem _, rfl⟩))⟩
  -- the block
  have hblk : ∃ v, W.cell? (a.add 0) = some v := by
    by_cases hl : 0 < len
    · obtain ⟨ci, hci, _⟩ := heach 0 hl
      obtain ⟨_, h2, h3⟩ := World.cells?_some hci
      rw [Nat.zero_mul, add_zero'] at h3
      exact ⟨_, (h3 0 hpos).trans (List.getElem?_eq_getElem (by omega))⟩
    · have hgi := hrest 0 (by omega)
      rw [List.getElem?_eq_getElem (by omega)] at hgi
      obtain ⟨ci, hci, _⟩ := Option.bind_eq_some_iff.1 hgi
      have hl0 : len = 0 := by omega
      rw [hl0] at hci
      obtain ⟨_, h2, h3⟩ := World.cells?_some hci
      simp only [Nat.add_zero, Nat.zero_mul, add_zero'] at h3
      exact ⟨_, (h3 0 hpos).trans (List.getElem?_eq_getElem (by omega))⟩
  obtain ⟨v0, hv0⟩ := hblk
  rw [add_zero'] at hv0
  obtain ⟨hspot, c, el, fr, hb, hc0⟩ := block_of_cell hv0
  obtain ⟨b, off, spot⟩ := a
  simp only at hspot hb hc0
  subst hspot
  have hadd : ∀ k, (⟨b, off, none⟩ : Addr).add k = ⟨b, off + k, none⟩ := by
    intro k; unfold Addr.add; split
    · rename_i e; simp [e]
    · rfl
  have hcell : ∀ i, i < len → ∀ k, k < sz → ∀ ci, W.cells? 0 ((⟨b, off, none⟩ : Addr).add (i * sz)) sz = some ci → c[off + i * sz + k]? = ci[k]? := by
    intro i hi k hk ci hci
    obtain ⟨_, h2, h3⟩ := World.cells?_some hci
    have := h3 k hk
    rw [hadd] at this
    have e2 : (⟨b, off + i * sz, none⟩ : Addr).add k = ⟨b, off + i * sz + k, none⟩ := by
      unfold Addr.add; split
      · rename_i e; simp [e]
      · rfl
    rw [e2] at this
    simpa [World.cell?, hb] using this
  -- the elements' list
  have hlist : ∀ m, m ≤ len → ∃ l : List α, l.length = m ∧ ∀ i (hi : i < l.length), ∃ ci, W.cells? 0 ((⟨b, off, none⟩ : Addr).add (i * sz)) sz = some ci ∧ RepL W (cellsOf (f l[i])) ci := by
    intro m
    induction m with
    | zero => intro _; exact ⟨[], rfl, fun i hi => by simp at hi⟩
    | succ m ih =>
      intro hm
      obtain ⟨l, hl, hall⟩ := ih (by omega)
      obtain ⟨ci, hci, y, hy⟩ := heach m (by omega)
      refine ⟨l ++ [y], by simp [hl], fun i hi => ?_⟩
      by_cases h' : i < l.length
      · obtain ⟨ci', h1, h2⟩ := hall i h'
        exact ⟨ci', h1, by rw [List.getElem_append_left h']; exact h2⟩
      · have hi' : i = m := by simp [hl] at hi; omega
        subst hi'
        exact ⟨ci, hci, by rw [List.getElem_append_right (by omega)]; simpa [hl] using hy⟩
  obtain ⟨l, hl, hall⟩ := hlist len (Nat.le_refl _)
  have hfit : off + len * sz ≤ c.size := by
    by_cases hl0 : len = 0
    · subst hl0
      have := (Array.getElem?_eq_some_iff.1 hc0).1
      omega
    · obtain ⟨ci, h1, _⟩ := hall (len - 1) (by omega)
      obtain ⟨_, h2, _⟩ := World.cells?_some h1
      have h3 := hcell (len - 1) (by omega) (sz - 1) (by omega) ci h1
      rw [List.getElem?_eq_getElem (by omega)] at h3
      have h4 := (Array.getElem?_eq_some_iff.1 h3).1
      have h5 : (len - 1) * sz + sz = len * sz := by rw [← Nat.succ_mul]; congr 1; omega
      omega
  have hml : (l.map f).length = len := by simpa using hl
  refine ⟨l, RepL.one' rfl ?_⟩
  have hgoal : Rep W Noblk Mu.none (.seq sz (l.map f) false) (.slice (some ⟨b, off, none⟩) (l.map f).length cap) := by
    refine Rep.seq (fun h => h) hb (by omega) (fun h => by cases h) (by omega) (by rw [hml]; exact hfit) ?_ ?_ ?_
    · intro i hi
      have hi' : i < l.length := by simpa using hi
      have e : (l.map f).getD i .junk = f l[i] := by simp [List.getD_eq_getElem?_getD, hi']
      rw [e]; exact hf _
    · intro j hj1 hj2
      simp only [List.length_map, hl] at hj2
      have hk : (j - off) / sz < len := (Nat.div_lt_iff_lt_mul hpos).2 (by omega)
      obtain ⟨ci, h1, h2⟩ := hall ((j - off) / sz) (by omega)
      have hm : (j - off) % sz < sz := Nat.mod_lt _ hpos
      have hcj := hcell ((j - off) / sz) hk ((j - off) % sz) hm ci h1
      have hje : off + (j - off) / sz * sz + (j - off) % sz = j := by have := Nat.div_add_mod (j - off) sz; rw [Nat.mul_comm] at this; omega
      rw [hje] at hcj
      obtain ⟨_, h3, _⟩ := World.cells?_some h1
      have hlc : (cellsOf (f (l[(j - off) / sz]'(by omega)))).length = sz := by rw [← h2.len, h3]
      have := h2.one ((j - off) % sz) (by omega)
      rw [Array.getD_eq_getD_getElem?, hcj]
      rwa [List.getD_eq_getElem?_getD] at this
    · intro i hi
      have hi' : i < l.length := by simpa using hi
      have e : (l.map f).getD i .junk = f l[i] := by simp [List.getD_eq_getElem?_getD, hi']
      rw [e]
      obtain ⟨ci, h1, h2⟩ := hall i hi'
      obtain ⟨_, h3, _⟩ := World.cells?_some h1
      refine h2.elem (hf _) h3 ?_ (fun k hk => ?_)
      · have : i * sz + sz ≤ len * sz := by rw [← Nat.succ_mul]; exact Nat.mul_le_mul_right _ (by omega)
        omega
      · have hcj := hcell i (by omega) k hk ci h1
        rw [Array.getD_eq_getD_getElem?, hcj, List.getD_eq_getElem?_getD]

  rw [hml] at hgoal
  exact hgoal

end
end Go.Abs
end

section
/- The value layer, part 30: structs read as data; a statement out of its contract. -/
namespace Go.Abs
open Go.RowKit

section
variable {H : Type} {en : TypeId × Value → H} {P : Program} {W : World}

theorem Reads.as {t : TypeId} {α β : Type} {f : α → AV} {g : β → AV} (h : Reads en P W t f) (m : α → β) (he : ∀ a, cellsOf (f a) = cellsOf (g (m a))) : Reads en P W t g := by
  intro fuel cs x hx hw
  obtain ⟨a, ha⟩ := h fuel cs x hx hw
  exact ⟨m a, he a ▸ ha⟩

/-- An argument of one cell. -/
theorem arg_one {t : TypeId} {α : Type} {f : α → AV} (hr : Reads en P W t f) (hf : ∀ a, cellsOf (f a) = [f a]) {v : Value} (hv : v.cells = #[v])
    {d : DataW H} {ps : List MemPlace} (h : DataW.Trod en P W 0 (fun _ => true) true t v d ps) (hw : ∀ n ∈ d.weights P t, n ≤ reachBytes) : ∃ a : α, Rep W Noblk Mu.none (f a) v := by
  obtain ⟨fuel, h⟩ := h
  obtain ⟨a, ha⟩ := hr fuel _ _ h hw
  refine ⟨a, ?_⟩
  rw [hf, hv] at ha
  exact ha.rep 0 (by simp)
theorem Grows.below {w w' : World} (h : Grows w w') : Below w.heap.size w w' := ⟨h.1.1, h.2.1, h.2.2.1, h.2.2.2.1, h.2.2.2.2⟩
/-- A call of a function whose contract says that it returns a bool. -/
theorem CallP.calls {f : FuncId} {args : List AV} {b : Bool} (h : CallP P f args (.raw (.bool b))) {vs : Array Value} (hlen : vs.size = args.length) (hargs : ∀ i, i < args.length → Rep W Noblk Mu.none (args.getD i .junk) (vs.getD i undef)) :
    Calls P f vs W fun e w' => e = .returned (.bool b) ∧ Below W.heap.size W w' := by
  refine Calls.mono (h.2 W Noblk vs (fun b hb => hb.elim) hlen hargs) ?_
  rintro e w' ⟨v, rfl, hg, hr⟩
  rw [hr.one.1]
  exact ⟨rfl, hg.below⟩
end
end Go.Abs
end

section
/- What the arguments of the statements about sounds are as abstract values. -/
namespace Go.Proofs.YtphkchjhghdhiaaGreat
open Go.Abs Go

theorem own : ownKnob Tryz.prog.godebug = none := by kernel_rfl
theorem laidOut : laidOutB Tryz.prog = true := by kernel_rfl
section
variable {H : Type} (en : TypeId × Value → H) (W : World)
theorem reads_i : Reads en Tryz.prog W 3 iv := reads_int Tryz.underlying3
theorem reads_ints : Reads en Tryz.prog W 32 ints := reads_slice Tryz.underlying32 (by kernel_rfl) (by decide) (by decide +kernel) (fun _ => rfl) (reads_i en W)
theorem reads_tab : Reads en Tryz.prog W 22 tabV := reads_slice Tryz.underlying22 (by kernel_rfl) (by decide) (by decide +kernel) (fun _ => rfl) (reads_ints en W)
end
theorem len_of_seq {W : World} {sz : Nat} {l : List AV} {full : Bool} {v : Value} (h : Rep W Noblk Mu.none (.seq sz l full) v) : l.length ≤ big := by
  cases h with
  | nil => simp [big]
  | seq hY hb hc hf hbig hfit hw h1 h => exact hbig
theorem len_of_tab {W : World} {l : List (List Int)} {v : Value} (h : Rep W Noblk Mu.none (tabV l) v) : l.length ≤ big := by simpa using len_of_seq h
end Go.Proofs.YtphkchjhghdhiaaGreat
end

section
-- This text proves the facts about the program's head row (its first words) that every claim of this seat asks for.
set_option maxRecDepth 100000
namespace Go.Proofs.YtphkchjhghdhiaaGreat
open Go

theorem wordsSigns_none : ∀ (a r : List Char), (∀ c ∈ a, c ≠ Char.ofNat 32) → wordsSigns (a ++ Char.ofNat 32 :: r) = a :: wordsSigns r := by
  intro a r h
  induction a with
  | nil => simp [wordsSigns]
  | cons c a ih =>
    have hc : c ≠ Char.ofNat 32 := h c (by simp)
    have := ih (fun c hc => h c (by simp [hc]))
    simp only [List.cons_append]
    rw [wordsSigns]
    · rw [this]
    · intro hh; exact hc hh

theorem behind_of (sum r : List Char) (hs : isSumSigns sum = true) (hn : ∀ c ∈ sum, c ≠ Char.ofNat 32) :
    behindMainWord (wordsSigns ([Char.ofNat 104, Char.ofNat 97, Char.ofNat 114, Char.ofNat 110, Char.ofNat 101, Char.ofNat 115, Char.ofNat 115] ++ Char.ofNat 32 :: (sum ++ Char.ofNat 32 :: ([Char.ofNat 99, Char.ofNat 117, Char.ofNat 116] ++ Char.ofNat 32 :: r)))) = "cut".toList :: wordsSigns r := by
  rw [wordsSigns_none _ _ (by decide), wordsSigns_none _ _ hn, wordsSigns_none _ _ (by decide)]
  simp only [behindMainWord, hs]
  simp

theorem strip_cut (r : List (List Char)) : stripLifts liftWords ("cut".toList :: r) = ([], "cut".toList :: r) := by
  kernel_rfl

theorem laysLater_no : Tryz.pinned.checked.prog.laysLater = false := by kernel_rfl
theorem bearsReflect_no : Tryz.pinned.checked.prog.bearsReflect = false := by kernel_rfl
theorem doorFits_nil : Tryz.pinned.checked.prog.doorFits [] = true := by kernel_rfl

def headRest : List Char := [Char.ofNat 97, Char.ofNat 116, Char.ofNat 32, Char.ofNat 118, Char.ofNat 121, Char.ofNat 97, Char.ofNat 107, Char.ofNat 97, Char.ofNat 114, Char.ofNat 97, Char.ofNat 110, Char.ofNat 97, Char.ofNat 47, Char.ofNat 118, Char.ofNat 121, Char.ofNat 97, Char.ofNat 107, Char.ofNat 97, Char.ofNat 114, Char.ofNat 97, Char.ofNat 110, Char.ofNat 97, Char.ofNat 108, Char.ofNat 97, Char.ofNat 119, Char.ofNat 48, Char.ofNat 49, Char.ofNat 46, Char.ofNat 83, Char.ofNat 111, Char.ofNat 117, Char.ofNat 110, Char.ofNat 100, Char.ofNat 83, Char.ofNat 112, Char.ofNat 108, Char.ofNat 105, Char.ofNat 116, Char.ofNat 115]
theorem head_row : Tryz.pinned.checked.prog.initOrder = String.ofList ([Char.ofNat 104, Char.ofNat 97, Char.ofNat 114, Char.ofNat 110, Char.ofNat 101, Char.ofNat 115, Char.ofNat 115] ++ Char.ofNat 32 :: ([Char.ofNat 51, Char.ofNat 54, Char.ofNat 49, Char.ofNat 48, Char.ofNat 54, Char.ofNat 97, Char.ofNat 49, Char.ofNat 55, Char.ofNat 52, Char.ofNat 56, Char.ofNat 101, Char.ofNat 98, Char.ofNat 57, Char.ofNat 53, Char.ofNat 100, Char.ofNat 56, Char.ofNat 49, Char.ofNat 101, Char.ofNat 49, Char.ofNat 53, Char.ofNat 53, Char.ofNat 55, Char.ofNat 97, Char.ofNat 101, Char.ofNat 100, Char.ofNat 99, Char.ofNat 55, Char.ofNat 54, Char.ofNat 50, Char.ofNat 99, Char.ofNat 50, Char.ofNat 53, Char.ofNat 57, Char.ofNat 53, Char.ofNat 98, Char.ofNat 102, Char.ofNat 57, Char.ofNat 97, Char.ofNat 101, Char.ofNat 102, Char.ofNat 99, Char.ofNat 52, Char.ofNat 102, Char.ofNat 99, Char.ofNat 101, Char.ofNat 55, Char.ofNat 48, Char.ofNat 48, Char.ofNat 101, Char.ofNat 50, Char.ofNat 57, Char.ofNat 48, Char.ofNat 49, Char.ofNat 98, Char.ofNat 53, Char.ofNat 48, Char.ofNat 97, Char.ofNat 101, Char.ofNat 101, Char.ofNat 55, Char.ofNat 51, Char.ofNat 57, Char.ofNat 101, Char.ofNat 97] ++ Char.ofNat 32 :: ([Char.ofNat 99, Char.ofNat 117, Char.ofNat 116] ++ Char.ofNat 32 :: headRest))) := by kernel_rfl
theorem head_words : ∃ r, behindMainWord (wordsSigns Tryz.pinned.checked.prog.initOrder.toList) = "cut".toList :: r :=
  ⟨wordsSigns headRest, by rw [head_row, String.toList_ofList]; exact behind_of _ _ (by decide) (by decide)⟩

theorem mayEnter_of {P : Program} (h : ∃ r, behindMainWord (wordsSigns P.initOrder.toList) = "cut".toList :: r)
    (hl : P.laysLater = false) (hb : P.bearsReflect = false) (hd : P.doorFits [] = true) : P.mayEnter = true := by
  obtain ⟨r, h⟩ := h
  unfold Program.mayEnter
  rw [h]
  simp only [strip_cut, hl, hb, hd]
  simp

theorem headLifts_of {P : Program} (h : ∃ r, behindMainWord (wordsSigns P.initOrder.toList) = "cut".toList :: r) : P.headLifts = [] := by
  obtain ⟨r, h⟩ := h
  unfold Program.headLifts
  rw [h, strip_cut]
  rfl

theorem liftsFinal_of {P : Program} (h : ∃ r, behindMainWord (wordsSigns P.initOrder.toList) = "cut".toList :: r) : P.liftsFinal = false := by
  have hn := headLifts_of h
  obtain ⟨r, h⟩ := h
  unfold Program.liftsFinal
  rw [h, hn]
  simp

theorem make_of {P : Program} (h : ∃ r, behindMainWord (wordsSigns P.initOrder.toList) = "cut".toList :: r) : P.make = some .cut := by
  obtain ⟨r, h⟩ := h
  unfold Program.make
  rw [h]
  simp

theorem mayEnter_yes : Tryz.pinned.checked.prog.mayEnter = true := mayEnter_of head_words laysLater_no bearsReflect_no doorFits_nil
theorem liftsFinal_no : Tryz.pinned.checked.prog.liftsFinal = false := liftsFinal_of head_words
theorem make_cut : Tryz.pinned.checked.prog.make = some .cut := make_of head_words

theorem joined_of {P : Program} {f : FuncId} {fn : Func} {s : ChangeSpec} {c : OpenClaim}
    (k0 : (c.wf (OpenSpec.ofChange s)) = true)
    (k1 : (laidOutB P) = true)
    (k2 : (mapsRowed P) = true)
    (k3 : (fn.params.all (P.readableRec ·)) = true)
    (k4 : (namedTie P c.named s.vars) = true)
    (k5 : ((c.stops == [])) = true)
    (k6 : ((P.stops == [])) = true)
    (k7 : ((c.knobs == [])) = true)
    (k8 : ((P.stopKnobs == [])) = true)
    (k9 : ((c.inPlace == P.inPlace f)) = true)
    (k10 : ((c.unfollowed == P.unfollowed f)) = true)
    (k11 : ((c.recurses == P.recurses f)) = true)
    (k12 : ((c.named == P.varsNamed f)) = true)
    (k13 : ((c.maps == (fn.params.toList ++ s.plain.varTypes P).any (P.mapsRec ·))) = true)
    (k14 : ((c.ifaces == (fn.params.toList ++ s.plain.varTypes P).any (P.ifacesRec ·))) = true)
    (k15 : ((c.mapsOut == P.mapsAmong fn.resultTypes.toList)) = true)
    (k16 : ((c.loops == (fn.params.toList ++ s.plain.varTypes P).any (P.loopsFrom ·))) = true)
    (k17 : ((c.wideKeys == (fn.params.toList ++ s.plain.varTypes P ++ fn.resultTypes.toList).any (P.wideKeysFrom ·))) = true)
    (k18 : (s.vars.all (P.varReadable ·)) = true)
    (k19 : (fn.resultTypes.all (fun t => P.readableRec t && decide (t < P.types.size))) = true)
    (k20 : ((c.ifacesOut == fn.resultTypes.toList.any (P.ifacesRec ·))) = true)
    (k21 : ((c.loopsOut == fn.resultTypes.toList.any (P.loopsFrom ·))) = true)
    (k22 : ((c.plainKeys == P.plainKeys)) = true)
    (k23 : (c.shortTexts.isNone) = true)
    (k24 : (P.stopsHeard) = true)
    (k25 : (P.mayEnter) = true)
    (k26 : ((c.lifted == P.liftsFinal)) = true)
    (k27 : ((P.make == some c.make)) = true)
    (k28 : ((c.kinds == (if c.domain.isEmpty then [] else fn.params.toList.map fun t => match P.underlying t with | some (.int k) => some k | _ => none))) = true)
    (k29 : ((c.pinned == c.pinnedBy)) = true)
    (k30 : ((c.veiled == (fn.params.toList ++ s.plain.varTypes P ++ fn.resultTypes.toList).any (P.veiledRec ·))) = true)
    (k31 : (c.veiledFits P fn.params.toList (fn.params.toList ++ s.plain.varTypes P ++ fn.resultTypes.toList)) = true) : joinedFacts P f fn s c = true := by
  unfold joinedFacts
  simp only [Bool.and_eq_true]
  exact ⟨⟨⟨⟨⟨⟨⟨⟨⟨⟨⟨⟨⟨⟨⟨⟨⟨⟨⟨⟨⟨⟨⟨⟨⟨⟨⟨⟨⟨⟨⟨k0, k1⟩, k2⟩, k3⟩, k4⟩, k5⟩, k6⟩, k7⟩, k8⟩, k9⟩, k10⟩, k11⟩, k12⟩, k13⟩, k14⟩, k15⟩, k16⟩, k17⟩, k18⟩, k19⟩, k20⟩, k21⟩, k22⟩, k23⟩, k24⟩, k25⟩, k26⟩, k27⟩, k28⟩, k29⟩, k30⟩, k31⟩

theorem fact1 : laidOutB Tryz.pinned.checked.prog = true := by kernel_rfl
theorem fact2 : mapsRowed Tryz.pinned.checked.prog = true := by kernel_rfl
theorem fact6 : (Tryz.pinned.checked.prog.stops == []) = true := by kernel_rfl
theorem fact8 : (Tryz.pinned.checked.prog.stopKnobs == []) = true := by kernel_rfl
theorem fact24 : Tryz.pinned.checked.prog.stopsHeard = true := by kernel_rfl

end Go.Proofs.YtphkchjhghdhiaaGreat
end
