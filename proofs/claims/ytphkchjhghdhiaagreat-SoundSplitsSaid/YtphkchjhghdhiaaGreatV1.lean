/- Part 1 of the proof: the value layer and the contracts of the functions that the statement reaches; proved without conditions beyond those each theorem states. -/
import Derived.WalkKit
import Derived.MapKept
import Derived.WideKeyPair
set_option linter.unusedSimpArgs false
set_option linter.unusedVariables false

section
/- The value layer, part 1: abstract values, what they say of a world, and that this stays. -/
namespace Go.Abs

/-- Abstract values. 'seq': an immutable slice (cells of each element, the elements, whether its capacity is its length). 'ipt': a pointer to an immutable element, so many cells into it. 'pt': a pointer into a box of the frame (its number, its version, the element, the cell in it). 'sl': a slice of a box. 'maybe g a': a if g. 'mp': a map that is a box (its version). 'map': an immutable map, its entries as pairs of key and value. -/
inductive AV where
  | raw (v : Value)
  | agg (l : List AV)
  | tup (l : List AV)
  | seq (sz : Nat) (l : List AV) (full : Bool)
  | ipt (e : AV) (sub : Nat)
  | pt (id ver idx sub : Nat)
  | sl (id ver off len : Nat)
  | fn (f : FuncId) (first captured : List AV)
  | maybe (g : Bool) (a : AV)
  | mp (id ver : Nat)
  | map (l : List AV)
  | junk

instance : Inhabited AV := ⟨.junk⟩

/-- Of a box: its version, the cells of an element, where in its block it begins, the block and its number of cells (none: there is no block yet, and no element). -/
structure Loc where
  ver : Nat
  sz : Nat
  base : Nat
  blk : Option (Nat × Nat)

abbrev Mu := Nat → Option Loc

def Mu.none : Mu := fun _ => Option.none

def AV.width : AV → Nat
  | .agg l => l.length
  | _ => 1

/-- The value of an element whose cells begin at o. -/
def elemVal (e : AV) (sz : Nat) (c : Array Value) (o : Nat) : Value :=
  match e with
  | .agg _ => .agg (c.extract o (o + sz))
  | _ => c.getD o undef

def big : Nat := 2 ^ 48

/-- The entry of a map as a pair. -/
def entP (e : MapEntry) : Value := .tuple #[e.key, e.val]
def entV (es : Array MapEntry) (i : Nat) : Value := (es.map entP).getD i undef

/-- The entries of a map: their number, and that each has its own stamp. -/
def Stamp (es : Array MapEntry) (clock n : Nat) : Prop := es.size = n ∧ (∀ x ∈ es.toList, x.born < clock) ∧ (es.toList.map (·.born)).Nodup
theorem stamp_nil : Stamp #[] 0 0 := ⟨rfl, by simp, by simp⟩
theorem stamp_push {es : Array MapEntry} {clock n : Nat} (h : Stamp es clock n) (k v : Value) : Stamp (es.push ⟨k, v, clock⟩) (clock + 1) (n + 1) := by
  obtain ⟨h1, h2, h3⟩ := h
  refine ⟨by simp [h1], fun x hx => ?_, ?_⟩
  · simp only [Array.toList_push, List.mem_append, List.mem_singleton] at hx
    rcases hx with hx | rfl
    · exact Nat.lt_succ_of_lt (h2 x hx)
    · exact Nat.lt_succ_self _
  · simp only [Array.toList_push, List.map_append, List.map_cons, List.map_nil]
    refine List.nodup_append.2 ⟨h3, by simp, fun a ha b hb => ?_⟩
    simp only [List.mem_singleton] at hb
    subst hb
    obtain ⟨x, hx, rfl⟩ := List.mem_map.1 ha
    exact Nat.ne_of_lt (h2 x hx)
theorem stamp_modify {es : Array MapEntry} {clock n : Nat} (h : Stamp es clock n) (j : Nat) (f : MapEntry → MapEntry) (hf : ∀ e, (f e).born = e.born) : Stamp (es.modify j f) clock n := by
  obtain ⟨h1, h2, h3⟩ := h
  have hb : (es.modify j f).toList.map (·.born) = es.toList.map (·.born) := by
    apply List.ext_getElem?
    intro i
    simp only [List.getElem?_map, Array.getElem?_toList, Array.getElem?_modify]
    by_cases hij : j = i
    · subst hij
      cases he : es[j]? with
      | none => simp
      | some e => simp [hf]
    · simp [hij]
  refine ⟨by simp [h1], fun x hx => ?_, by rw [hb]; exact h3⟩
  have : x.born ∈ (es.modify j f).toList.map (·.born) := List.mem_map.2 ⟨x, hx, rfl⟩
  rw [hb] at this
  obtain ⟨y, hy, e⟩ := List.mem_map.1 this
  rw [← e]; exact h2 y hy

inductive Rep (w : World) (Y : Nat → Prop) : Mu → AV → Value → Prop
  | raw {μ : Mu} {v : Value} (h : v.oneCell' = true) : Rep w Y μ (.raw v) v
  | agg {μ : Mu} {l : List AV} {cs : Array Value} (hs : cs.size = l.length) (h1 : ∀ i, i < l.length → (cs.getD i undef).oneCell' = true)
      (h : ∀ i, i < l.length → Rep w Y μ (l.getD i .junk) (cs.getD i undef)) : Rep w Y μ (.agg l) (.agg cs)
  | tup {μ : Mu} {l : List AV} {cs : Array Value} (hs : cs.size = l.length)
      (h : ∀ i, i < l.length → Rep w Y μ (l.getD i .junk) (cs.getD i undef)) : Rep w Y μ (.tup l) (.tuple cs)
  | nil {μ : Mu} {sz : Nat} {full : Bool} {p : Option Addr} : Rep w Y μ (.seq sz [] full) (.slice p 0 0)
  | seq {μ : Mu} {sz : Nat} {l : List AV} {full : Bool} {b off cap : Nat} {c : Array Value} {el : TypeId} {fr : Nat × Nat} (hY : ¬ Y b)
      (hb : w.heap[b]? = some (.cells c el fr)) (hc : l.length ≤ cap) (hf : full = true → cap = l.length) (hbig : l.length ≤ big)
      (hfit : off + l.length * sz ≤ c.size) (hw : ∀ i, i < l.length → (l.getD i .junk).width = sz)
      (h1 : ∀ j, off ≤ j → j < off + l.length * sz → (c.getD j undef).oneCell' = true)
      (h : ∀ i, i < l.length → Rep w Y Mu.none (l.getD i .junk) (elemVal (l.getD i .junk) sz c (off + i * sz))) :
      Rep w Y μ (.seq sz l full) (.slice (some ⟨b, off, none⟩) l.length cap)
  | ipt {μ : Mu} {e : AV} {sub b off : Nat} {c : Array Value} {el : TypeId} {fr : Nat × Nat} (hY : ¬ Y b)
      (hb : w.heap[b]? = some (.cells c el fr)) (hfit : off + e.width ≤ c.size)
      (h1 : ∀ j, off ≤ j → j < off + e.width → (c.getD j undef).oneCell' = true)
      (h : Rep w Y Mu.none e (elemVal e e.width c off)) :
      Rep w Y μ (.ipt e sub) (.pointer (some ⟨b, off + sub, none⟩))
  | pt {μ : Mu} {id ver idx sub : Nat} {loc : Loc} {g n : Nat} (hm : μ id = some loc) (hv : loc.ver = ver) (hb : loc.blk = some (g, n)) (hz : loc.sz ≠ 0) :
      Rep w Y μ (.pt id ver idx sub) (.pointer (some ⟨g, loc.base + idx * loc.sz + sub, none⟩))
  | ptOld {μ : Mu} {id ver idx sub : Nat} {loc : Loc} {v : Value} (hm : μ id = some loc) (hv : ver < loc.ver) : Rep w Y μ (.pt id ver idx sub) v
  | slNil {μ : Mu} {id ver off : Nat} {loc : Loc} {p : Option Addr} (hm : μ id = some loc) (hv : loc.ver = ver) (hf : ∀ g n, loc.blk = some (g, n) → loc.sz ≠ 0 → n ≤ loc.base + off * loc.sz) : Rep w Y μ (.sl id ver off 0) (.slice p 0 0)
  | sl {μ : Mu} {id ver off len cap : Nat} {loc : Loc} {g n : Nat} (hm : μ id = some loc) (hv : loc.ver = ver) (hb : loc.blk = some (g, n))
      (hc : len ≤ cap) (hfit : loc.base + (off + cap) * loc.sz = n) (hz : loc.sz ≠ 0) : Rep w Y μ (.sl id ver off len) (.slice (some ⟨g, loc.base + off * loc.sz, none⟩) len cap)
  | slOld {μ : Mu} {id ver off len : Nat} {loc : Loc} {v : Value} (hm : μ id = some loc) (hv : ver < loc.ver) : Rep w Y μ (.sl id ver off len) v
  | fn {μ : Mu} {f : FuncId} {first captured : List AV} {fs cs : Array Value} (hs : fs.size = first.length) (ht : cs.size = captured.length)
      (h : ∀ i, i < first.length → Rep w Y μ (first.getD i .junk) (fs.getD i undef))
      (k : ∀ i, i < captured.length → Rep w Y μ (captured.getD i .junk) (cs.getD i undef)) :
      Rep w Y μ (.fn f first captured) (.func (.func f) fs cs)
  | mp {μ : Mu} {id ver : Nat} {loc : Loc} {g n : Nat} (hm : μ id = some loc) (hv : loc.ver = ver) (hb : loc.blk = some (g, n)) (hz : loc.sz = 0) : Rep w Y μ (.mp id ver) (.map (some g))
  | mpOld {μ : Mu} {id ver : Nat} {loc : Loc} {v : Value} (hm : μ id = some loc) (hv : ver < loc.ver) : Rep w Y μ (.mp id ver) v
  | map {μ : Mu} {l : List AV} {g : Nat} {es : Array MapEntry} {clock : Nat} (hY : ¬ Y g) (hb : w.heap[g]? = some (.map es clock)) (hs : Stamp es clock l.length) (hbig : l.length ≤ big)
      (h : ∀ i, i < l.length → Rep w Y Mu.none (l.getD i .junk) (entV es i)) : Rep w Y μ (.map l) (.map (some g))
  | maybe {μ : Mu} {g : Bool} {a : AV} {v : Value} (h0 : g = false → v = undef) (h : g = true → Rep w Y μ a v) : Rep w Y μ (.maybe g a) v
  | junk {μ : Mu} {v : Value} : Rep w Y μ .junk v

/-- A box's place may be a later one only under a later version. -/
def Mu.later (μ μ' : Mu) : Prop := ∀ id l, μ id = some l → ∃ l', μ' id = some l' ∧ (l' = l ∨ l.ver < l'.ver)

theorem Mu.later.refl (μ : Mu) : μ.later μ := fun _ l h => ⟨l, h, .inl rfl⟩
theorem Mu.later.trans {a b c : Mu} (h : a.later b) (k : b.later c) : a.later c := fun id l hl => by
  obtain ⟨l', h', e⟩ := h id l hl
  obtain ⟨l'', h'', e'⟩ := k id l' h'
  refine ⟨l'', h'', ?_⟩
  rcases e with rfl | e <;> rcases e' with rfl | e'
  · exact .inl rfl
  · exact .inr e'
  · exact .inr e
  · exact .inr (Nat.lt_trans e e')
theorem Mu.none_later (μ : Mu) : Mu.none.later μ := fun _ _ h => by cases h

theorem lt_of_heap {w : World} {b : Nat} {o : Obj} (h : w.heap[b]? = some o) : b < w.heap.size := (Array.getElem?_eq_some_iff.1 h).1

theorem Rep.mono {w w' : World} {Y Y' : Nat → Prop} (hk : ∀ b, ¬ Y b → b < w.heap.size → ¬ Y' b ∧ w'.heap[b]? = w.heap[b]?) :
    ∀ {μ : Mu} {a : AV} {v : Value}, Rep w Y μ a v → ∀ {μ' : Mu}, μ.later μ' → Rep w' Y' μ' a v := by
  intro μ a v h
  induction h with
  | raw h => intro μ' _; exact .raw h
  | agg hs h1 h ih => intro μ' hl; exact .agg hs h1 fun i hi => ih i hi hl
  | tup hs h ih => intro μ' hl; exact .tup hs fun i hi => ih i hi hl
  | nil => intro μ' _; exact .nil
  | seq hY hb hc hf hbig hfit hw h1 h ih =>
    intro μ' _
    obtain ⟨y, e⟩ := hk _ hY (lt_of_heap hb)
    exact .seq y (e.trans hb) hc hf hbig hfit hw h1 fun i hi => ih i hi (Mu.later.refl _)
  | ipt hY hb hfit h1 h ih =>
    intro μ' _
    obtain ⟨y, e⟩ := hk _ hY (lt_of_heap hb)
    exact .ipt y (e.trans hb) hfit h1 (ih (Mu.later.refl _))
  | pt hm hv hb hz =>
    intro μ' hl
    obtain ⟨l', h', e⟩ := hl _ _ hm
    rcases e with rfl | e
    · exact .pt h' hv hb hz
    · exact .ptOld h' (by omega)
  | ptOld hm hv =>
    intro μ' hl
    obtain ⟨l', h', e⟩ := hl _ _ hm
    refine .ptOld h' ?_
    rcases e with rfl | e <;> omega
  | slNil hm hv hnf =>
    intro μ' hl
    obtain ⟨l', h', e⟩ := hl _ _ hm
    rcases e with rfl | e
    · exact .slNil h' hv hnf
    · exact .slOld h' (by omega)
  | sl hm hv hb hc hfit hz =>
    intro μ' hl
    obtain ⟨l', h', e⟩ := hl _ _ hm
    rcases e with rfl | e
    · exact .sl h' hv hb hc hfit hz
    · exact .slOld h' (by omega)
  | slOld hm hv =>
    intro μ' hl
    obtain ⟨l', h', e⟩ := hl _ _ hm
    refine .slOld h' ?_
    rcases e with rfl | e <;> omega
  | fn hs ht h k ih ik => intro μ' hl; exact .fn hs ht (fun i hi => ih i hi hl) fun i hi => ik i hi hl
  | mp hm hv hb hz =>
    intro μ' hl
    obtain ⟨l', h', e⟩ := hl _ _ hm
    rcases e with rfl | e
    · exact .mp h' hv hb hz
    · exact .mpOld h' (by omega)
  | mpOld hm hv =>
    intro μ' hl
    obtain ⟨l', h', e⟩ := hl _ _ hm
    refine .mpOld h' ?_
    rcases e with rfl | e <;> omega
  | map hY hb hs hbig h ih =>
    intro μ' _
    obtain ⟨y, e⟩ := hk _ hY (lt_of_heap hb)
    exact .map y (e.trans hb) hs hbig fun i hi => ih i hi (Mu.later.refl _)
  | maybe h0 h ih => intro μ' hl; exact .maybe h0 fun g => ih g hl
  | junk => intro μ' _; exact .junk

/- the boxes that an abstract value names -/
mutual
def AV.refs : AV → List Nat
  | .agg l => AV.refsL l
  | .tup l => AV.refsL l
  | .fn _ a b => AV.refsL a ++ AV.refsL b
  | .pt id _ _ _ => [id]
  | .sl id _ _ _ => [id]
  | .mp id _ => [id]
  | .maybe _ a => a.refs
  | _ => []
def AV.refsL : List AV → List Nat
  | [] => []
  | a :: l => a.refs ++ AV.refsL l
end

theorem AV.mem_refsL {id : Nat} : ∀ {l : List AV} {i : Nat}, i < l.length → id ∈ (l.getD i .junk).refs → id ∈ AV.refsL l
  | a :: l, 0, _, h => by simp [AV.refsL] at h ⊢; exact .inl h
  | a :: l, i + 1, hi, h => by
    simp only [AV.refsL, List.mem_append]
    exact .inr (AV.mem_refsL (i := i) (by simpa using hi) (by simpa using h))

/-- The places of the boxes that are not named do not count. -/
theorem Rep.on {w : World} {Y : Nat → Prop} : ∀ {μ : Mu} {a : AV} {v : Value}, Rep w Y μ a v → ∀ {μ' : Mu}, (∀ id ∈ a.refs, μ' id = μ id) → Rep w Y μ' a v := by
  intro μ a v h
  induction h with
  | raw h => intro μ' _; exact .raw h
  | agg hs h1 h ih => intro μ' hl; exact .agg hs h1 fun i hi => ih i hi fun id hid => hl id (by simpa [AV.refs] using AV.mem_refsL hi hid)
  | tup hs h ih => intro μ' hl; exact .tup hs fun i hi => ih i hi fun id hid => hl id (by simpa [AV.refs] using AV.mem_refsL hi hid)
  | nil => intro μ' _; exact .nil
  | seq hY hb hc hf hbig hfit hw h1 h ih => intro μ' _; exact .seq hY hb hc hf hbig hfit hw h1 h
  | ipt hY hb hfit h1 h ih => intro μ' _; exact .ipt hY hb hfit h1 h
  | pt hm hv hb hz => intro μ' hl; exact .pt ((hl _ (by simp [AV.refs])).trans hm) hv hb hz
  | ptOld hm hv => intro μ' hl; exact .ptOld ((hl _ (by simp [AV.refs])).trans hm) hv
  | slNil hm hv hnf => intro μ' hl; exact .slNil ((hl _ (by simp [AV.refs])).trans hm) hv hnf
  | sl hm hv hb hc hfit hz => intro μ' hl; exact .sl ((hl _ (by simp [AV.refs])).trans hm) hv hb hc hfit hz
  | mp hm hv hb hz => intro μ' hl; exact .mp ((hl _ (by simp [AV.refs])).trans hm) hv hb hz
  | mpOld hm hv => intro μ' hl; exact .mpOld ((hl _ (by simp [AV.refs])).trans hm) hv
  | map hY hb hs hbig h ih => intro μ' hl; exact .map hY hb hs hbig h
  | slOld hm hv => intro μ' hl; exact .slOld ((hl _ (by simp [AV.refs])).trans hm) hv
  | fn hs ht h k ih ik =>
    intro μ' hl
    exact .fn hs ht (fun i hi => ih i hi fun id hid => hl id (by simpa [AV.refs] using .inl (AV.mem_refsL hi hid)))
      fun i hi => ik i hi fun id hid => hl id (by simpa [AV.refs] using .inr (AV.mem_refsL hi hid))
  | maybe h0 h ih => intro μ' hl; exact .maybe h0 fun g => ih g fun id hid => hl id (by simpa [AV.refs] using hid)
  | junk => intro μ' _; exact .junk

theorem Rep.pure {w : World} {Y : Nat → Prop} {μ : Mu} {a : AV} {v : Value} (h : Rep w Y μ a v) (hr : a.refs = []) (μ' : Mu) : Rep w Y μ' a v :=
  h.on fun id hid => by rw [hr] at hid; cases hid

theorem Rep.one {w : World} {Y : Nat → Prop} {μ : Mu} {v : Value} {u : Value} (h : Rep w Y μ (.raw u) v) : v = u ∧ u.oneCell' = true := by
  cases h with
  | raw h => exact ⟨rfl, h⟩

end Go.Abs
end

section
/- The value layer, part 2: abstract states and what they say of a frame and a world. -/
namespace Go.Abs

structure Box where
  sz : Nat
  els : List AV
  ver : Nat
  var : Bool

structure St where
  env : List (Nat × AV)
  mem : List (Nat × Option Box)

def get : List (Nat × AV) → Nat → AV
  | [], _ => .junk
  | (k, v) :: r, t => if t = k then v else get r t

def find : List (Nat × Option Box) → Nat → Option Box
  | [], _ => none
  | (k, b) :: r, id => if id = k then b else find r id

def blks (μ : Mu) (b : Nat) : Prop := ∃ id l n, μ id = some l ∧ l.blk = some (b, n)

def Yof (X : Nat → Prop) (μ : Mu) (b : Nat) : Prop := X b ∨ blks μ b

/-- What a box says of its place: a row of cells, or a map (whose elements have no cells). -/
def Holds (w : World) (Y : Nat → Prop) (μ : Mu) (l : Loc) (b : Box) : Prop :=
  b.els.length ≤ big ∧
  match l.blk with
  | none => b.els = []
  | some (g, n) => (b.sz ≠ 0 → ∃ c el, w.heap[g]? = some (.cells c el (0, 0)) ∧ c.size = n ∧ l.base + b.els.length * b.sz ≤ n ∧
      (∀ j, j < n → (c.getD j undef).oneCell' = true) ∧
      ∀ i, i < b.els.length → (b.els.getD i .junk).width = b.sz ∧
        Rep w Y (if b.var then μ else Mu.none) (b.els.getD i .junk) (elemVal (b.els.getD i .junk) b.sz c (l.base + i * b.sz))) ∧
    (b.sz = 0 → b.var = false ∧ ∃ es clock, w.heap[g]? = some (.map es clock) ∧ Stamp es clock b.els.length ∧ ∀ i, i < b.els.length → Rep w Y Mu.none (b.els.getD i .junk) (entV es i))

structure Inv (w : World) (X : Nat → Prop) (μ : Mu) (m : List (Nat × Option Box)) : Prop where
  no : ∀ id, find m id = none → μ id = none
  box : ∀ id b, find m id = some b → ∃ l, μ id = some l ∧ l.ver = b.ver ∧ l.sz = b.sz ∧ Holds w (Yof X μ) μ l b
  apart : ∀ id id' l l' g n n', μ id = some l → μ id' = some l' → l.blk = some (g, n) → l'.blk = some (g, n') → id = id'
  out : ∀ g, blks μ g → ¬ X g

/-- The world and the frame at a call's begin: the world, the blocks that it must not touch and that no immutable value may lie in, the blocks lent to it, the number of slots, where the boxes lent to it lie (each of version 0). -/
structure Base where
  w0 : World
  X : Nat → Prop
  own : Nat → Prop
  N : Nat
  mu0 : Mu
  dfs : List Deferred := []

/-- What is left as it was. -/
structure Ext (w0 w : World) (own : Nat → Prop) : Prop where
  os : w.os = w0.os ∧ w0.drawn ≤ w.drawn
  tape : w.tape = w0.tape
  output : w.output = w0.output
  size : w0.heap.size ≤ w.heap.size
  old : ∀ b, b < w0.heap.size → ¬ own b → w.heap[b]? = w0.heap[b]?

structure RelM (B : Base) (w : World) (a : Act) (s : St) (μ : Mu) : Prop where
  defers : a.defers = B.dfs
  size : a.tmps.size = B.N
  inv : Inv w B.X μ s.mem
  env : ∀ t, Rep w (Yof B.X μ) μ (get s.env t) (a.tmps.getD t undef)
  ext : Ext B.w0 w B.own
  mine : ∀ g, blks μ g → B.own g ∨ B.w0.heap.size ≤ g
  base : ∀ b, B.X b → b < B.w0.heap.size ∧ ¬ B.own b
  kept : ∀ id l0 l, B.mu0 id = some l0 → μ id = some l → l = l0 ∨ 0 < l.ver

def Rel (B : Base) (w : World) (a : Act) (s : St) : Prop := ∃ μ, RelM B w a s μ

theorem Ext.refl (w : World) (own : Nat → Prop) : Ext w w own := ⟨⟨rfl, Nat.le_refl _⟩, rfl, rfl, Nat.le_refl _, fun _ _ _ => rfl⟩

theorem Ext.trans {a b c : World} {own own' : Nat → Prop} (h : Ext a b own) (k : Ext b c own') (hs : ∀ g, g < a.heap.size → own' g → own g) : Ext a c own :=
  ⟨⟨k.os.1.trans h.os.1, Nat.le_trans h.os.2 k.os.2⟩, k.tape.trans h.tape, k.output.trans h.output, Nat.le_trans h.size k.size, fun g hg hn =>
    (k.old g (Nat.lt_of_lt_of_le hg h.size) (fun e => hn (hs g hg e))).trans (h.old g hg hn)⟩

theorem blks.lt {w : World} {X : Nat → Prop} {μ : Mu} {m : List (Nat × Option Box)} (h : Inv w X μ m) {g : Nat} (hg : blks μ g) : g < w.heap.size := by
  obtain ⟨id, l, n, hm, hb⟩ := hg
  cases hf : find m id with
  | none => rw [h.no id hf] at hm; cases hm
  | some b =>
    obtain ⟨l', hm', _, _, hh⟩ := h.box id b hf
    rw [hm] at hm'; cases hm'
    unfold Holds at hh
    rw [hb] at hh
    obtain ⟨_, h1, h2⟩ := hh
    by_cases hz : b.sz = 0
    · obtain ⟨_, es, clock, hw, _⟩ := h2 hz
      exact lt_of_heap hw
    · obtain ⟨c, el, hw, _⟩ := h1 hz
      exact lt_of_heap hw

/-- What holds of the values still holds when no block outside of Y has changed. -/
theorem Holds.mono {w w' : World} {Y Y' : Nat → Prop} {μ μ' : Mu} {l : Loc} {b : Box} (h : Holds w Y μ l b)
    (hk : ∀ b, ¬ Y b → b < w.heap.size → ¬ Y' b ∧ w'.heap[b]? = w.heap[b]?) (hl : μ.later μ')
    (hg : ∀ g n, l.blk = some (g, n) → w'.heap[g]? = w.heap[g]?) : Holds w' Y' μ' l b := by
  unfold Holds at *
  refine ⟨h.1, ?_⟩
  cases hb : l.blk with
  | none => rw [hb] at h; exact h.2
  | some gn =>
    obtain ⟨g, n⟩ := gn
    rw [hb] at h
    obtain ⟨_, hc, hmp⟩ := h
    refine ⟨fun hz => ?_, fun hz => ?_⟩
    · obtain ⟨c, el, hw, hs, hn, h1, hr⟩ := hc hz
      refine ⟨c, el, (hg g n hb).trans hw, hs, hn, h1, fun i hi => ⟨(hr i hi).1, ?_⟩⟩
      have := (hr i hi).2
      cases hv : b.var with
      | false => rw [hv] at this; exact this.mono hk (Mu.later.refl _)
      | true => rw [hv] at this; exact this.mono hk hl
    · obtain ⟨hv, es, clock, hw, hs, hr⟩ := hmp hz
      exact ⟨hv, es, clock, (hg g n hb).trans hw, hs, fun i hi => (hr i hi).mono hk (Mu.later.refl _)⟩

/-- A change of the world that leaves all blocks as they are but makes new ones. -/
def Grows (w w' : World) : Prop := (w'.os = w.os ∧ w.drawn ≤ w'.drawn) ∧ w'.tape = w.tape ∧ w'.output = w.output ∧ w.heap.size ≤ w'.heap.size ∧ ∀ b, b < w.heap.size → w'.heap[b]? = w.heap[b]?

theorem Grows.refl (w : World) : Grows w w := ⟨⟨rfl, Nat.le_refl _⟩, rfl, rfl, Nat.le_refl _, fun _ _ => rfl⟩
theorem Grows.drew (w : World) : Grows w w.drew := ⟨⟨rfl, Nat.le_succ _⟩, rfl, rfl, Nat.le_refl _, fun _ _ => rfl⟩
theorem alloc_old (w : World) (o : Obj) {b : Nat} (h : b < w.heap.size) : (w.alloc o).heap[b]? = w.heap[b]? := by
  show (w.heap.push o)[b]? = _
  simp [Array.getElem?_push, Nat.ne_of_lt h]
theorem alloc_new (w : World) (o : Obj) : (w.alloc o).heap[w.heap.size]? = some o := by
  show (w.heap.push o)[w.heap.size]? = _
  simp
theorem Grows.alloc (w : World) (o : Obj) : Grows w (w.alloc o) := ⟨⟨rfl, Nat.le_refl _⟩, rfl, rfl, by simp, fun b h => alloc_old w o h⟩
theorem Grows.trans {a b c : World} (h : Grows a b) (k : Grows b c) : Grows a c :=
  ⟨⟨k.1.1.trans h.1.1, Nat.le_trans h.1.2 k.1.2⟩, k.2.1.trans h.2.1, k.2.2.1.trans h.2.2.1, Nat.le_trans h.2.2.2.1 k.2.2.2.1, fun g hg =>
    (k.2.2.2.2 g (Nat.lt_of_lt_of_le hg h.2.2.2.1)).trans (h.2.2.2.2 g hg)⟩
theorem Grows.ext {w w' : World} (h : Grows w w') (own : Nat → Prop) : Ext w w' own := ⟨h.1, h.2.1, h.2.2.1, h.2.2.2.1, fun b hb _ => h.2.2.2.2 b hb⟩

theorem Grows.rep {w w' : World} (h : Grows w w') {Y : Nat → Prop} {μ : Mu} {a : AV} {v : Value} (hr : Rep w Y μ a v) : Rep w' Y μ a v :=
  hr.mono (fun b hy hb => ⟨hy, h.2.2.2.2 b hb⟩) (Mu.later.refl _)

theorem Grows.inv {w w' : World} (h : Grows w w') {X : Nat → Prop} {μ : Mu} {m : List (Nat × Option Box)} (hi : Inv w X μ m) : Inv w' X μ m :=
  ⟨hi.no, fun id b hb => by
    obtain ⟨l, hm, hv, hs, hh⟩ := hi.box id b hb
    exact ⟨l, hm, hv, hs, hh.mono (fun b hy hb => ⟨hy, h.2.2.2.2 b hb⟩) (Mu.later.refl _) fun g n hg => h.2.2.2.2 g (blks.lt hi ⟨id, l, n, hm, hg⟩)⟩, hi.apart, hi.out⟩

theorem RelM.grows {B : Base} {w w' : World} {a : Act} {s : St} {μ : Mu} (h : RelM B w a s μ) (hg : Grows w w') : RelM B w' a s μ :=
  ⟨h.defers, h.size, hg.inv h.inv, fun t => hg.rep (h.env t), h.ext.trans (hg.ext B.own) (fun _ _ h => h), h.mine, h.base, h.kept⟩

/-- A slot gets a value. -/
def St.set (s : St) (d : Nat) (a : AV) : St := { s with env := (d, a) :: s.env }

theorem getD_set {xs : Array Value} {d t : Nat} {v : Value} (h : d < xs.size) : (xs.setIfInBounds d v).getD t undef = if t = d then v else xs.getD t undef := by
  simp only [Array.getD_eq_getD_getElem?, Array.getElem?_setIfInBounds]
  by_cases e : d = t
  · subst e; simp [h]
  · simp [e, Ne.symm e]

theorem RelM.set {B : Base} {w : World} {a : Act} {s : St} {μ : Mu} (h : RelM B w a s μ) {d : Nat} (hd : d < B.N) {x : AV} {v : Value}
    (hx : Rep w (Yof B.X μ) μ x v) : RelM B w (a.put (some d) v) (s.set d x) μ where
  defers := h.defers
  size := by simp [Act.put, h.size]
  inv := h.inv
  env t := by
    simp only [Act.put, St.set, get]
    rw [getD_set (by rw [h.size]; exact hd)]
    by_cases e : t = d
    · rw [if_pos e, if_pos e]; exact hx
    · rw [if_neg e, if_neg e]; exact h.env t
  ext := h.ext
  mine := h.mine
  base := h.base
  kept := h.kept

theorem RelM.skip {B : Base} {w : World} {a : Act} {s : St} {μ : Mu} (h : RelM B w a s μ) (v : Value) : RelM B w (a.put none v) s μ := h

/-- The new version of a box. -/
def nver (m : List (Nat × Option Box)) (d : Nat) : Nat :=
  match find m d with
  | none => 1
  | some b => b.ver + 1

def Mu.upd (μ : Mu) (id : Nat) (l : Loc) : Mu := fun i => if i = id then some l else μ i

theorem later_upd {w : World} {X : Nat → Prop} {μ : Mu} {m : List (Nat × Option Box)} (hi : Inv w X μ m) (id : Nat) (l : Loc) (h : nver m id ≤ l.ver) : μ.later (μ.upd id l) := by
  intro i l0 h0
  by_cases e : i = id
  · subst e
    refine ⟨l, by simp [Mu.upd], .inr ?_⟩
    unfold nver at h
    cases hf : find m i with
    | none => rw [hi.no i hf] at h0; cases h0
    | some b =>
      obtain ⟨l', hm', hv, _, _⟩ := hi.box i b hf
      rw [h0] at hm'; cases hm'
      rw [hf] at h
      simp only at h
      omega
  · exact ⟨l0, by simp [Mu.upd, e, h0], .inl rfl⟩

theorem zero_upd {w : World} {X : Nat → Prop} {μ : Mu} {m : List (Nat × Option Box)} (hi : Inv w X μ m) (id : Nat) (l : Loc) (h : nver m id ≤ l.ver) : 0 < l.ver := by
  refine Nat.lt_of_lt_of_le ?_ h
  unfold nver
  split <;> omega

theorem blks_upd {μ : Mu} {id : Nat} {l : Loc} {g : Nat} (h : blks (μ.upd id l) g) : (∃ n, l.blk = some (g, n)) ∨ ∃ i l' n, i ≠ id ∧ μ i = some l' ∧ l'.blk = some (g, n) := by
  obtain ⟨i, l', n, hm, hb⟩ := h
  by_cases e : i = id
  · subst e
    simp [Mu.upd] at hm
    subst hm
    exact .inl ⟨n, hb⟩
  · simp [Mu.upd, e] at hm
    exact .inr ⟨i, l', n, e, hm, hb⟩

/-- A box gets a new place, or the same one with another content: all that the other steps on boxes lean on. The world may have changed in the box's own block, and new blocks may have come. -/
theorem RelM.rebox {B : Base} {w w' : World} {a : Act} {s : St} {μ : Mu} (h : RelM B w a s μ) (id : Nat) (b : Box) (l : Loc)
    (hver : l.ver = b.ver) (hsz : l.sz = b.sz)
    (hlater : μ.later (μ.upd id l)) (hz : μ id = some l ∨ 0 < l.ver)
    (hos : (w'.os = w.os ∧ w.drawn ≤ w'.drawn) ∧ w'.tape = w.tape ∧ w'.output = w.output) (hsize : w.heap.size ≤ w'.heap.size)
    (hold : ∀ g, g < w.heap.size → (∀ l0 n, μ id = some l0 → l0.blk = some (g, n) → False) → w'.heap[g]? = w.heap[g]?)
    (hnew : ∀ g n, l.blk = some (g, n) → (∃ l0 n0, μ id = some l0 ∧ l0.blk = some (g, n0)) ∨ w.heap.size ≤ g)
    (hh : Holds w' (Yof B.X (μ.upd id l)) (μ.upd id l) l b) :
    RelM B w' a ⟨s.env, (id, some b) :: s.mem⟩ (μ.upd id l) := by
  have hkeep : ∀ g, ¬ Yof B.X μ g → g < w.heap.size → ¬ Yof B.X (μ.upd id l) g ∧ w'.heap[g]? = w.heap[g]? := by
    intro g hy hg
    have hno : ∀ l0 n, μ id = some l0 → l0.blk = some (g, n) → False := fun l0 n h0 hb => hy (.inr ⟨id, l0, n, h0, hb⟩)
    refine ⟨fun hy' => ?_, hold g hg hno⟩
    rcases hy' with hx | hb
    · exact hy (.inl hx)
    · rcases blks_upd hb with ⟨n, hl⟩ | ⟨i, l', n, _, hm, hb'⟩
      · rcases hnew g n hl with ⟨l0, n0, h0, hb0⟩ | hge
        · exact hno l0 n0 h0 hb0
        · omega
      · exact hy (.inr ⟨i, l', n, hm, hb'⟩)
  have hother : ∀ i l0 g n, i ≠ id → μ i = some l0 → l0.blk = some (g, n) → w'.heap[g]? = w.heap[g]? := by
    intro i l0 g n hi hm hb
    refine hold g (blks.lt h.inv ⟨i, l0, n, hm, hb⟩) fun l1 n1 h1 hb1 => hi (h.inv.apart i id l0 l1 g n n1 hm h1 hb hb1)
  have hmine : ∀ g, blks (μ.upd id l) g → B.own g ∨ B.w0.heap.size ≤ g := by
    intro g hg
    rcases blks_upd hg with ⟨n, hl⟩ | ⟨i, l', n, _, hm, hb'⟩
    · rcases hnew g n hl with ⟨l0, n0, h0, hb0⟩ | hge
      · exact h.mine g ⟨id, l0, n0, h0, hb0⟩
      · exact .inr (Nat.le_trans h.ext.size hge)
    · exact h.mine g ⟨i, l', n, hm, hb'⟩
  refine ⟨h.defers, h.size, ⟨?_, ?_, ?_, ?_⟩, fun t => (h.env t).mono hkeep hlater, ?_, hmine, h.base, ?_⟩
  · intro i hf
    by_cases e : i = id
    · simp [find, e] at hf
    · simp [find, e] at hf
      simp [Mu.upd, e, h.inv.no i hf]
  · intro i b' hf
    by_cases e : i = id
    · subst e
      simp [find] at hf
      subst hf
      exact ⟨l, by simp [Mu.upd], hver, hsz, hh⟩
    · simp [find, e] at hf
      obtain ⟨l0, hm, hv, hs, hh0⟩ := h.inv.box i b' hf
      exact ⟨l0, by simp [Mu.upd, e, hm], hv, hs, hh0.mono hkeep hlater fun g n hg => hother i l0 g n e hm hg⟩
  · intro i i' l0 l0' g n n' hm hm' hb hb'
    by_cases e : i = id
    · by_cases e' : i' = id
      · rw [e, e']
      · exfalso
        subst e
        simp [Mu.upd] at hm
        simp [Mu.upd, e'] at hm'
        subst hm
        rcases hnew g n hb with ⟨l1, n1, h1, hb1⟩ | hge
        · exact e' (h.inv.apart i' i l0' l1 g n' n1 hm' h1 hb' hb1)
        · have := blks.lt h.inv ⟨i', l0', n', hm', hb'⟩
          omega
    · by_cases e' : i' = id
      · exfalso
        subst e'
        simp [Mu.upd, e] at hm
        simp [Mu.upd] at hm'
        subst hm'
        rcases hnew g n' hb' with ⟨l1, n1, h1, hb1⟩ | hge
        · exact e (h.inv.apart i i' l0 l1 g n n1 hm h1 hb hb1)
        · have := blks.lt h.inv ⟨i, l0, n, hm, hb⟩
          omega
      · simp [Mu.upd, e] at hm
        simp [Mu.upd, e'] at hm'
        exact h.inv.apart i i' l0 l0' g n n' hm hm' hb hb'
  · intro g hg hx
    rcases hmine g hg with ho | hge
    · exact (h.base g hx).2 ho
    · have := (h.base g hx).1
      omega
  · refine ⟨⟨hos.1.1.trans h.ext.os.1, Nat.le_trans h.ext.os.2 hos.1.2⟩, hos.2.1.trans h.ext.tape, hos.2.2.trans h.ext.output, Nat.le_trans h.ext.size hsize, fun g hg hn => ?_⟩
    have hgw : g < w.heap.size := Nat.lt_of_lt_of_le hg h.ext.size
    refine (hold g hgw fun l0 n h0 hb => ?_).trans (h.ext.old g hg hn)
    rcases h.mine g ⟨id, l0, n, h0, hb⟩ with ho | hge
    · exact hn ho
    · omega
  · intro i l0 l' h0 hm
    by_cases e : i = id
    · subst e
      simp [Mu.upd] at hm
      subst hm
      rcases hz with hz | hz
      · exact h.kept i l0 l h0 hz
      · exact .inr hz
    · simp [Mu.upd, e] at hm
      exact h.kept i l0 l' h0 hm

end Go.Abs
end

section
/- The value layer, part 3: types, parts of values, loads and stores. -/
namespace Go.Abs

/-! ### keys of maps -/
inductive Key where
  | str (s : ByteArray)
  | two (a b : Int)
deriving DecidableEq
/-- Kinds of keys. -/
inductive KK where
  | str
  | two
def KK.fits : KK → Key → Bool
  | .str, .str _ => true
  | .two, .two a b => decide (0 ≤ a) && decide (a < 1000000) && decide (0 ≤ b) && decide (b < 1000000)
  | _, _ => false
def vkey : Value → Option Key
  | .string s => some (.str s)
  | .agg cs => match cs.toList with
    | [.int .i64 a, .int .i64 b] => some (.two a b)
    | _ => none
  | _ => none
def vfindE (k : Key) : List MapEntry → Nat → Option (Nat × Value)
  | [], _ => none
  | e :: es, i => if vkey e.key = some k then some (i, e.val) else vfindE k es (i + 1)
/-- What a type of keys does. -/
structure KeyR (P : Program) (kt : Nat) (kk : KK) : Prop where
  chk : ∀ (b : Bool) (v : Value) (k : Key) (w : World), vkey v = some k → kk.fits k = true → (Instr.checkKey b 10000 kt v).run P w = .ok () w
  fnd : ∀ (v : Value) (k : Key) (es : List MapEntry) (w : World), vkey v = some k → kk.fits k = true → (∀ e ∈ es, ∃ k', vkey e.key = some k' ∧ kk.fits k' = true) → (Instr.findKey kt v es).run P w = .ok (vfindE k es 0) w
  stay : ∀ (u v : Value) (k : Key) (w : World), vkey u = some k → vkey v = some k → kk.fits k = true → (Instr.keyThatStays u v).run P w = .ok v w

theorem vkey_str {v : Value} {k : Key} (h : vkey v = some k) (hk : KK.str.fits k = true) : ∃ s, v = .string s ∧ k = .str s := by
  unfold vkey at h
  split at h
  · cases h; exact ⟨_, rfl, rfl⟩
  · split at h
    · cases h; cases hk
    · cases h
  · cases h
theorem findNow_str {s : ByteArray} : ∀ (es : List MapEntry) (i : Nat), (∀ e ∈ es, ∃ k', vkey e.key = some k' ∧ KK.str.fits k' = true) → Instr.findNow .string (.string s) es i = some (vfindE (.str s) es i)
  | [], i, _ => rfl
  | e :: es, i, h => by
    obtain ⟨k', h1, h2⟩ := h e (by simp)
    obtain ⟨s', e1, rfl⟩ := vkey_str h1 h2
    have ih := findNow_str (s := s) es (i + 1) (fun x hx => h x (by simp [hx]))
    simp only [Instr.findNow, vfindE, e1, Instr.sameNow, vkey, Option.some.injEq, Key.str.injEq]
    by_cases hs : s = s'
    · subst hs
      have : (s == s) = true := (MapKept.bytes_beq s s).2 rfl
      simp [this]
    · have h3 : (s == s') = false := by
        cases hb : s == s' with
        | false => rfl
        | true => exact absurd ((MapKept.bytes_beq s s').1 hb) hs
      have h4 : ¬ s' = s := fun e => hs e.symm
      simp [h3, h4, ih]
theorem keyR_str {P : Program} {kt : Nat} (hd : P.underlying kt = some .string) : KeyR P kt .str where
  chk b v k w h1 h2 := by
    obtain ⟨s, rfl, rfl⟩ := vkey_str h1 h2
    exact MapKept.run_checkKey hd (by trivial) b 9999
  fnd v k es w h1 h2 h3 := by
    obtain ⟨s, rfl, rfl⟩ := vkey_str h1 h2
    exact MapKept.run_findKey hd (findNow_str es 0 h3)
  stay u v k w h1 h2 h3 := by
    obtain ⟨s, rfl, rfl⟩ := vkey_str h1 h3
    obtain ⟨s', rfl, e⟩ := vkey_str h2 h3
    cases e
    have : Instr.sameBits 10000 (.string s) (.string s) = true := by
      simp only [Instr.sameBits]
      exact (MapKept.bytes_beq s s).2 rfl
    simp [Instr.keyThatStays, this]

theorem vkey_two {v : Value} {k : Key} (h : vkey v = some k) (hk : KK.two.fits k = true) : ∃ a b, v = .agg #[.int .i64 a, .int .i64 b] ∧ k = .two a b ∧ (0 ≤ a ∧ a < 1000000) ∧ (0 ≤ b ∧ b < 1000000) := by
  unfold vkey at h
  split at h
  · cases h; cases hk
  · rename_i cs
    split at h
    · rename_i a b e
      cases h
      simp only [KK.fits, Bool.and_eq_true, decide_eq_true_eq] at hk
      have hcs : cs = #[.int .i64 a, .int .i64 b] := Array.ext' e
      exact ⟨_, _, by rw [hcs], rfl, ⟨hk.1.1.1, hk.1.1.2⟩, hk.1.2, hk.2⟩
    · cases h
  · cases h
theorem wf_small {a : Int} (h : 0 ≤ a ∧ a < 1000000) : (Lit.int .i64 a).wf = true := by
  simp only [Lit.wf]
  have h1 : IntKind.i64.min ≤ 0 := by decide
  have h2 : (1000000 : Int) ≤ IntKind.i64.max := by decide
  simp
  omega
section
open Go.WideMaps
variable {P : Program} {kt e : Nat} (A : ArrKey P kt e 2) (he : P.underlying e = some (.int .i64)) (hsz : ∃ m, P.types.size = m + 1)
include A he hsz
theorem key_two {a b : Int} (ha : 0 ≤ a ∧ a < 1000000) (hb : 0 ≤ b ∧ b < 1000000) : keyOf P kt (.agg #[.int .i64 a, .int .i64 b]) = some (.string (keyBytes [.int .i64 a, .int .i64 b])) :=
  keyOf_pair A he hsz (wf_small ha) (wf_small hb)
theorem findAsking_two {a b : Int} (ha : 0 ≤ a ∧ a < 1000000) (hb : 0 ≤ b ∧ b < 1000000) {w : World} : ∀ (es : List MapEntry) (i : Nat), (∀ e ∈ es, ∃ k', vkey e.key = some k' ∧ KK.two.fits k' = true) →
    (Instr.findAsking kt (.agg #[.int .i64 a, .int .i64 b]) es i).run P w = .ok (vfindE (.two a b) es i) w
  | [], i, _ => rfl
  | x :: es, i, h => by
    obtain ⟨k', h1, h2⟩ := h x (by simp)
    obtain ⟨a', b', e1, rfl, ha', hb'⟩ := vkey_two h1 h2
    have ih := findAsking_two ha hb (w := w) es (i + 1) (fun y hy => h y (by simp [hy]))
    obtain ⟨r, hr, hiff⟩ := run_equal_deep w (m := 2) (by omega) (A.at 0) A.wide (key_two A he hsz ha hb) (key_two A he hsz ha' hb')
    have hr2 : r = true ↔ Key.two a' b' = Key.two a b := by
      rw [hiff]
      constructor
      · intro hl
        have := A.law.inj (key_two A he hsz ha hb) (by rw [hl]; exact key_two A he hsz ha' hb')
        simp at this
        simp [this]
      · intro hl
        cases hl
        rfl
    simp only [Instr.findAsking, vfindE, e1, Sem.run_bind, hr, Result.andThen_ok]
    by_cases hk : Key.two a' b' = Key.two a b
    · have : vkey (.agg #[.int .i64 a', .int .i64 b']) = some (.two a b) := by rw [← hk]; rfl
      rw [if_pos this, if_pos (hr2.2 hk)]
      rfl
    · have h3 : ¬ vkey (.agg #[.int .i64 a', .int .i64 b']) = some (.two a b) := fun q => hk (by simpa [vkey] using q)
      rw [if_neg h3, if_neg (fun q => hk (hr2.1 q))]
      exact ih
theorem keyR_two : KeyR P kt .two where
  chk b v k w h1 h2 := by
    obtain ⟨x, y, rfl, rfl, hx, hy⟩ := vkey_two h1 h2
    exact A.law.check w b (key_two A he hsz hx hy)
  fnd v k es w h1 h2 h3 := by
    obtain ⟨x, y, rfl, rfl, hx, hy⟩ := vkey_two h1 h2
    rw [run_findKey_eq w A.wide]
    exact findAsking_two A he hsz hx hy es 0 h3
  stay u v k w h1 h2 h3 := by
    obtain ⟨x, y, rfl, rfl, hx, hy⟩ := vkey_two h1 h3
    obtain ⟨x', y', rfl, e, _, _⟩ := vkey_two h2 h3
    cases e
    exact A.law.stays w (key_two A he hsz hx hy)
end

inductive TK where
  | slice (e : Nat)
  | struct (fs : List (Nat × Nat × Nat))
  | array (n e : Nat)
  | int (k : IntKind)
  | bool
  | map (k e : Nat) (kk : KK)
  | str
  | flat

structure TI where
  size : Nat
  bytes : Nat
  kind : TK
  zero : AV
  eq : Bool

abbrev TT := Nat → Option TI

def TK.agg : TK → Bool
  | .struct _ => true
  | .array _ _ => true
  | _ => false

def TK.desc (P : Program) : TK → TypeDesc → Prop
  | .slice e, d => d = .slice e
  | .struct fs, d => ∃ fields : Array Field, d = .struct fields ∧ fields.toList.mapM (fun f => (P.info? f.type).map fun i => (f.offset, i.size, f.type)) = some fs
  | .array n e, d => d = .array n e
  | .int k, d => d = .int k
  | .bool, d => d = .bool
  | .map k e kk, d => d = .map k e ∧ KeyR P k kk
  | .str, d => d = .string
  | .flat, d => (∀ fs, d ≠ .struct fs) ∧ (∀ n e, d ≠ .array n e) ∧ (∀ e, d ≠ .slice e)

def cellsOf : AV → List AV
  | .agg l => l
  | a => [a]

/-- Whether two cells that can be compared are equal. -/
def vEq : Value → Value → Option Bool
  | .int k a, .int k' b => if k = k' then some (decide (a = b)) else none
  | .bool a, .bool b => some (a == b)
  | _, _ => none
def vsEq : List Value → List Value → Option Bool
  | [], [] => some true
  | x :: xs, y :: ys => match vEq x y, vsEq xs ys with
    | some a, some b => some (a && b)
    | _, _ => none
  | _, _ => none

def vkind : Value → Option (Option IntKind)
  | .int k _ => some (some k)
  | .bool _ => some none
  | _ => none
def akind : AV → Option (Option IntKind)
  | .raw v => vkind v
  | _ => none

/-- One row of a table of types is right. -/
structure TOK1 (P : Program) (t : Nat) (ti : TI) : Prop where
  info : ∃ i z, P.info? t = some i ∧ i.size = ti.size ∧ i.bytes = ti.bytes ∧ i.zero = some z ∧ z.cells.size = ti.size ∧ (∀ j, j < ti.size → (z.cells.getD j undef).oneCell' = true) ∧ (∀ w Y μ, Rep w Y μ ti.zero z) ∧
    ∀ w Y μ j, j < ti.size → Rep w Y μ ((cellsOf ti.zero).getD j .junk) (z.cells.getD j undef)
  width : ti.zero.width = ti.size
  desc : ∃ d, P.underlying t = some d ∧ ti.kind.desc P d
  pos : 0 < ti.size
  bound : ti.bytes ≤ 4096
  eqr : ti.eq = true → ∀ (xs ys : Array Value) (b : Bool) (x y : Operand) (w : World), xs.toList.map vkind = (cellsOf ti.zero).map akind → vsEq xs.toList ys.toList = some b →
    (do eqGuard .eql t x y (.agg xs) (.agg ys); binOp .eql t (.agg xs) (.agg ys) : Sem Value).run P w = .ok (.bool b) w ∧
    (do eqGuard .neq t x y (.agg xs) (.agg ys); binOp .neq t (.agg xs) (.agg ys) : Sem Value).run P w = .ok (.bool (!b)) w

def TOK (P : Program) (T : TT) : Prop := ∀ t ti, T t = some ti → TOK1 P t ti

section
variable {P : Program} {t : Nat} {ti : TI} (h : TOK1 P t ti) (w : World)
include h
theorem TOK1.run_size : (sizeOf t).run P w = .ok ti.size w := by
  obtain ⟨i, z, hi, hs, _⟩ := h.info
  simp [sizeOf, typeInfo, hi, hs]
theorem TOK1.run_agg : (isAgg t).run P w = .ok ti.kind.agg w := by
  obtain ⟨d, hd, hk⟩ := h.desc
  cases hkk : ti.kind with
  | slice e => rw [hkk] at hk; simp only [TK.desc] at hk; subst hk; simp [isAgg, run_underlying hd, TK.agg]
  | struct fs => rw [hkk] at hk; obtain ⟨fields, hk, _⟩ := hk; subst hk; simp [isAgg, run_underlying hd, TK.agg]
  | array n e => rw [hkk] at hk; simp only [TK.desc] at hk; subst hk; simp [isAgg, run_underlying hd, TK.agg]
  | int k => rw [hkk] at hk; simp only [TK.desc] at hk; subst hk; simp [isAgg, run_underlying hd, TK.agg]
  | bool => rw [hkk] at hk; simp only [TK.desc] at hk; subst hk; simp [isAgg, run_underlying hd, TK.agg]
  | map k e kk => rw [hkk] at hk; obtain ⟨hk, _⟩ := hk; subst hk; simp [isAgg, run_underlying hd, TK.agg]
  | str => rw [hkk] at hk; simp only [TK.desc] at hk; subst hk; simp [isAgg, run_underlying hd, TK.agg]
  | flat =>
    rw [hkk] at hk
    simp only [TK.desc] at hk
    simp only [isAgg, Sem.run_bind, run_underlying hd, Result.andThen_ok, TK.agg]
    cases d <;> first | rfl | (exact absurd rfl (hk.1 _)) | (exact absurd rfl (hk.2.1 _ _))
theorem TOK1.run_zero : ∃ z, (zeroValue t).run P w = .ok z w ∧ z.cells.size = ti.size ∧ (∀ j, j < ti.size → (z.cells.getD j undef).oneCell' = true) ∧ ∀ w Y μ, Rep w Y μ ti.zero z := by
  obtain ⟨i, z, hi, hs, hb, hz, h1, h2, h3, h4⟩ := h.info
  exact ⟨z, by simp [zeroValue, typeInfo, hi, hz], h1, h2, h3⟩
theorem TOK1.run_zeros : ∃ z, (∀ w, (zeroValue t).run P w = .ok z w) ∧ z.cells.size = ti.size ∧ (∀ j, j < ti.size → (z.cells.getD j undef).oneCell' = true) ∧
    ∀ w Y μ j, j < ti.size → Rep w Y μ ((cellsOf ti.zero).getD j .junk) (z.cells.getD j undef) := by
  obtain ⟨i, z, hi, hs, hb, hz, h1, h2, h3, h4⟩ := h.info
  exact ⟨z, fun w => by simp [zeroValue, typeInfo, hi, hz], h1, h2, h4⟩
end

theorem cellsOf_length (e : AV) : (cellsOf e).length = e.width := by cases e <;> rfl

/-- A part of an element, or all of it. -/
def sub (e : AV) (agg : Bool) (o n : Nat) : AV :=
  if agg then (if o = 0 ∧ n = e.width ∧ e.width ≠ 1 then e else .agg (((cellsOf e).drop o).take n)) else (cellsOf e).getD o .junk

/-- The cells of an element speak one by one. -/
theorem rep_cell {w : World} {Y : Nat → Prop} {μ : Mu} {e : AV} {c : Array Value} {o0 : Nat} (h : Rep w Y μ e (elemVal e e.width c o0))
    (hfit : o0 + e.width ≤ c.size) {o : Nat} (ho : o < e.width) : Rep w Y μ ((cellsOf e).getD o .junk) (c.getD (o0 + o) undef) := by
  cases e with
  | agg l =>
    simp only [elemVal, AV.width] at h ho hfit
    cases h with
    | agg hs h1 hh =>
      have := hh o ho
      simp only [cellsOf]
      have e2 : (c.extract o0 (o0 + l.length)).getD o undef = c.getD (o0 + o) undef := by
        simp only [Array.getD_eq_getD_getElem?]
        rw [Array.getElem?_extract]
        have : o < min (o0 + l.length) c.size - o0 := by omega
        simp [this]
      rw [e2] at this
      exact this
  | _ =>
    simp only [AV.width, Nat.lt_one_iff] at ho
    subst ho
    simpa [cellsOf, elemVal] using h

theorem rep_sub {w : World} {Y : Nat → Prop} {μ : Mu} {e : AV} {c : Array Value} {o0 : Nat} (h : Rep w Y μ e (elemVal e e.width c o0))
    (hfit : o0 + e.width ≤ c.size) (h1 : ∀ j, o0 ≤ j → j < o0 + e.width → (c.getD j undef).oneCell' = true) {o n : Nat} (ho : o + n ≤ e.width) :
    Rep w Y μ (sub e true o n) (.agg (c.extract (o0 + o) (o0 + o + n))) := by
  simp only [sub, if_true]
  split
  · rename_i hh
    obtain ⟨rfl, rfl, hne⟩ := hh
    cases e with
    | agg l => simpa [elemVal, AV.width] using h
    | _ => simp [AV.width] at hne
  · have hlen : (((cellsOf e).drop o).take n).length = n := by simp [cellsOf_length]; omega
    have hget : ∀ i, i < n → (c.extract (o0 + o) (o0 + o + n)).getD i undef = c.getD (o0 + (o + i)) undef := by
      intro i hi
      simp only [Array.getD_eq_getD_getElem?]
      rw [Array.getElem?_extract]
      have : i < min (o0 + o + n) c.size - (o0 + o) := by omega
      rw [if_pos this, Nat.add_assoc]
    refine .agg ?_ ?_ ?_
    · rw [hlen]; simp; omega
    · intro i hi
      rw [hlen] at hi
      rw [hget i hi]
      exact h1 _ (by omega) (by omega)
    · intro i hi
      rw [hlen] at hi
      rw [hget i hi]
      have := rep_cell h hfit (o := o + i) (by omega)
      simpa [List.getD_eq_getElem?_getD, List.getElem?_take, hi] using this

theorem cell_heap {w : World} {b o : Nat} {c : Array Value} {el : TypeId} {fr : Nat × Nat} (hb : w.heap[b]? = some (.cells c el fr)) (ho : o < c.size) :
    w.cell? ⟨b, o, none⟩ = some (c.getD o undef) := by
  simp [World.cell?, hb, Array.getD_eq_getD_getElem?, ho]

theorem addr_add (b o n : Nat) : (⟨b, o, none⟩ : Addr).add n = ⟨b, o + n, none⟩ := by unfold Addr.add; split <;> simp_all

theorem run_loadCells_at {P : Program} {w : World} {b o n : Nat} {c : Array Value} {el : TypeId} {fr : Nat × Nat} (hb : w.heap[b]? = some (.cells c el fr)) (ho : o + n ≤ c.size) :
    (loadCells ⟨b, o, none⟩ n).run P w = .ok (c.extract o (o + n)) w := by
  rw [run_loadCells w ⟨b, o, none⟩ n (fun j => c.getD (o + j) undef) (fun j hj => by rw [addr_add]; exact cell_heap hb (by omega))]
  congr 1
  apply Array.ext'
  apply List.ext_getElem?
  intro j
  simp only [List.getElem?_map, Array.getElem?_toList, Array.getElem?_extract, Array.getD_eq_getD_getElem?]
  by_cases hj : j < n
  · have : j < min (o + n) c.size - o := by omega
    have h2 : o + j < c.size := by omega
    simp [hj, this, h2]
  · have : ¬ j < min (o + n) c.size - o := by omega
    simp [hj, this]

/-- A load of a part of an element. -/
theorem run_load_sub {P : Program} {T : TT} (hT : TOK P T) {t : Nat} {ti : TI} (ht : T t = some ti) {w : World} {b o0 : Nat} {c : Array Value} {el : TypeId} {fr : Nat × Nat}
    (hb : w.heap[b]? = some (.cells c el fr)) {Y : Nat → Prop} {μ : Mu} {e : AV} (h : Rep w Y μ e (elemVal e e.width c o0)) (hfit : o0 + e.width ≤ c.size)
    (h1 : ∀ j, o0 ≤ j → j < o0 + e.width → (c.getD j undef).oneCell' = true) {o : Nat} (ho : o + ti.size ≤ e.width) :
    ∃ v, (Instr.loadAt t (.pointer (some ⟨b, o0 + o, none⟩))).run P w = .ok v w ∧ Rep w Y μ (sub e ti.kind.agg o ti.size) v := by
  have hk := hT t ti ht
  cases ha : ti.kind.agg with
  | true =>
    refine ⟨.agg (c.extract (o0 + o) (o0 + o + ti.size)), ?_, rep_sub h hfit h1 ho⟩
    simp [Instr.loadAt, Instr.sureAddr, loadVar, hk.run_agg, ha, hk.run_size, run_loadCells_at hb (show o0 + o + ti.size ≤ c.size by omega)]
  | false =>
    have hp := hk.pos
    refine ⟨c.getD (o0 + o) undef, ?_, ?_⟩
    · simp [Instr.loadAt, Instr.sureAddr, loadVar, hk.run_agg, ha, run_load, cell_heap hb (show o0 + o < c.size by omega)]
    · simp only [sub, Bool.false_eq_true, if_false]
      exact rep_cell h hfit (by omega)

/-- An element of which a part is another one. -/
def setSub (e : AV) (o : Nat) (v : AV) : AV :=
  match e with
  | .agg l => if o = 0 ∧ v.width = l.length ∧ v.width ≠ 1 then v else .agg (l.take o ++ cellsOf v ++ l.drop (o + v.width))
  | _ => v

end Go.Abs
end

section
/- The value layer, part 4: stores into boxes, new boxes. -/
namespace Go.Abs

/-- A value whose cells are known to be its own. -/
def AV.solid (m : List (Nat × Option Box)) : AV → Prop
  | .junk => False
  | .maybe _ _ => False
  | .tup _ => False
  | .pt id ver _ _ => ∃ b, find m id = some b ∧ b.ver = ver
  | .sl id ver _ _ => ∃ b, find m id = some b ∧ b.ver = ver
  | .mp id ver => ∃ b, find m id = some b ∧ b.ver = ver
  | _ => True

theorem Rep.solid {w : World} {X : Nat → Prop} {Y : Nat → Prop} {μ : Mu} {m : List (Nat × Option Box)} (hi : Inv w X μ m) {a : AV} {v : Value} (h : Rep w Y μ a v) (hs : a.solid m) :
    v.oneCell' = true ∨ ∃ l, a = .agg l := by
  cases h with
  | raw h => exact .inl h
  | agg hs h1 h => exact .inr ⟨_, rfl⟩
  | tup hs' h => exact hs.elim
  | junk => exact hs.elim
  | maybe h0 h => exact hs.elim
  | ptOld hm hv =>
    obtain ⟨b, hb, hbv⟩ := hs
    obtain ⟨l, hm', hv', _⟩ := hi.box _ b hb
    rw [hm] at hm'; cases hm'
    omega
  | slOld hm hv =>
    obtain ⟨b, hb, hbv⟩ := hs
    obtain ⟨l, hm', hv', _⟩ := hi.box _ b hb
    rw [hm] at hm'; cases hm'
    omega
  | mpOld hm hv =>
    obtain ⟨b, hb, hbv⟩ := hs
    obtain ⟨l, hm', hv', _⟩ := hi.box _ b hb
    rw [hm] at hm'; cases hm'
    omega
  | _ => exact .inl rfl

/-- The cells of an element, one by one. -/
theorem rep_elem {w : World} {Y : Nat → Prop} {μ : Mu} {e : AV} {c : Array Value} {o0 : Nat} (hfit : o0 + e.width ≤ c.size)
    (h1 : ∀ j, o0 ≤ j → j < o0 + e.width → (c.getD j undef).oneCell' = true)
    (h : ∀ j, j < e.width → Rep w Y μ ((cellsOf e).getD j .junk) (c.getD (o0 + j) undef)) : Rep w Y μ e (elemVal e e.width c o0) := by
  cases e with
  | agg l =>
    simp only [elemVal, AV.width] at *
    have hget : ∀ i, i < l.length → (c.extract o0 (o0 + l.length)).getD i undef = c.getD (o0 + i) undef := by
      intro i hi
      simp only [Array.getD_eq_getD_getElem?]
      rw [Array.getElem?_extract]
      have : i < min (o0 + l.length) c.size - o0 := by omega
      rw [if_pos this]
    refine .agg (by simp; omega) (fun i hi => ?_) (fun i hi => ?_)
    · rw [hget i hi]; exact h1 _ (by omega) (by omega)
    · rw [hget i hi]; exact h i hi
  | _ => simpa [cellsOf, elemVal, AV.width] using h 0 (by simp [AV.width])

theorem value_cells {v : Value} (h : v.oneCell' = true) : v.cells = #[v] := by cases v <;> first | rfl | simp [Value.oneCell'] at h

/-- A solid value's cells. -/
theorem Rep.cells {w : World} {Y : Nat → Prop} {μ : Mu} {a : AV} {v : Value} (h : Rep w Y μ a v) (hs : v.oneCell' = true ∨ ∃ l, a = .agg l) :
    v.cells.size = a.width ∧ ∀ j, j < a.width → (v.cells.getD j undef).oneCell' = true ∧ Rep w Y μ ((cellsOf a).getD j .junk) (v.cells.getD j undef) := by
  rcases hs with hs | ⟨l, rfl⟩
  · rw [value_cells hs]
    have hw : a.width = 1 := by
      cases h <;> first | rfl | simp [Value.oneCell'] at hs
    rw [hw]
    refine ⟨rfl, fun j hj => ?_⟩
    have : j = 0 := by omega
    subst this
    have hc : (cellsOf a).getD 0 .junk = a := by
      cases h <;> first | rfl | simp [Value.oneCell'] at hs
    rw [hc]
    exact ⟨hs, h⟩
  · cases h with
    | agg hs h1 hh => exact ⟨hs, fun j hj => ⟨h1 j hj, hh j hj⟩⟩

theorem setSub_width {e : AV} {o : Nat} {v : AV} (ho : o + v.width ≤ e.width) (hv : 0 < v.width) : (setSub e o v).width = e.width := by
  cases e with
  | agg l =>
    change o + v.width ≤ l.length at ho
    show _ = l.length
    simp only [setSub]
    split
    · rename_i h; exact h.2.1
    · show (l.take o ++ cellsOf v ++ l.drop (o + v.width)).length = l.length
      simp only [List.length_append, List.length_take, List.length_drop, cellsOf_length]; omega
  | _ => simp only [setSub]; change o + v.width ≤ 1 at ho; show v.width = 1; omega

theorem setSub_cells {e : AV} {o : Nat} {v : AV} (ho : o + v.width ≤ e.width) (hv : 0 < v.width) {j : Nat} (hj : j < e.width) :
    (cellsOf (setSub e o v)).getD j .junk = if o ≤ j ∧ j < o + v.width then (cellsOf v).getD (j - o) .junk else (cellsOf e).getD j .junk := by
  cases e with
  | agg l =>
    change o + v.width ≤ l.length at ho
    change j < l.length at hj
    have key : (l.take o ++ cellsOf v ++ l.drop (o + v.width)).getD j .junk = if o ≤ j ∧ j < o + v.width then (cellsOf v).getD (j - o) .junk else l.getD j .junk := by
      have hlen := cellsOf_length v
      simp only [List.getD_eq_getElem?_getD, List.getElem?_append, List.length_append, List.length_take, hlen]
      by_cases h1 : j < o
      · have : j < min o l.length + v.width := by omega
        have h2 : j < min o l.length := by omega
        have h3 : ¬ (o ≤ j ∧ j < o + v.width) := by omega
        rw [if_pos this, if_pos h2, if_neg h3, List.getElem?_take, if_pos h1]
      · by_cases h2 : j < o + v.width
        · have h3 : j < min o l.length + v.width := by omega
          have h4 : ¬ j < min o l.length := by omega
          have h5 : o ≤ j ∧ j < o + v.width := by omega
          have h6 : min o l.length = o := by omega
          rw [if_pos h3, if_neg h4, if_pos h5, h6]
        · have h3 : ¬ j < min o l.length + v.width := by omega
          have h5 : ¬ (o ≤ j ∧ j < o + v.width) := by omega
          have h6 : min o l.length = o := by omega
          rw [if_neg h3, if_neg h5, h6, List.getElem?_drop]
          congr 2
          omega
    simp only [setSub]
    split
    · rename_i h
      obtain ⟨rfl, hl, hne⟩ := h
      have h5 : 0 ≤ j ∧ j < 0 + v.width := by omega
      rw [if_pos h5]
      simp
    · exact key
  | _ =>
    change o + v.width ≤ 1 at ho
    change j < 1 at hj
    have h5 : o ≤ j ∧ j < o + v.width := by omega
    have : o = 0 := by omega
    subst this
    simp only [setSub]
    rw [if_pos h5]
    simp

theorem splice_size (c : Array Value) (p : Nat) (vs : List Value) (h : p + vs.length ≤ c.size) :
    (c.toList.take p ++ vs ++ c.toList.drop (p + vs.length)).toArray.size = c.size := by
  simp; omega

theorem splice_get (c : Array Value) (p : Nat) (vs : Array Value) (h : p + vs.size ≤ c.size) (j : Nat) (hj : j < c.size) :
    (c.toList.take p ++ vs.toList ++ c.toList.drop (p + vs.size)).toArray.getD j undef = if p ≤ j ∧ j < p + vs.size then vs.getD (j - p) undef else c.getD j undef := by
  simp only [Array.getD_eq_getD_getElem?, List.getElem?_toArray, List.getElem?_append, List.length_append, List.length_take, Array.length_toList]
  by_cases h1 : j < p
  · have h2 : j < min p c.size + vs.size := by omega
    have h3 : j < min p c.size := by omega
    have h4 : ¬ (p ≤ j ∧ j < p + vs.size) := by omega
    rw [if_pos h2, if_pos h3, if_neg h4, List.getElem?_take, if_pos h1, Array.getElem?_toList]
  · by_cases h2 : j < p + vs.size
    · have h3 : j < min p c.size + vs.size := by omega
      have h4 : ¬ j < min p c.size := by omega
      have h5 : p ≤ j ∧ j < p + vs.size := by omega
      have h6 : min p c.size = p := by omega
      rw [if_pos (by simpa using h3), if_neg h4, if_pos h5, h6, Array.getElem?_toList]
    · have h3 : ¬ j < min p c.size + vs.size := by omega
      have h5 : ¬ (p ≤ j ∧ j < p + vs.size) := by omega
      have h6 : min p c.size = p := by omega
      rw [if_neg (by simpa using h3), if_neg h5, h6, List.getElem?_drop, Array.getElem?_toList]
      congr 2
      omega

theorem later_same {μ : Mu} {id : Nat} {l : Loc} (h : μ id = some l) : μ.later (μ.upd id l) := by
  intro i l0 h0
  by_cases e : i = id
  · subst e
    rw [h] at h0
    cases h0
    exact ⟨l, by simp [Mu.upd], .inl rfl⟩
  · exact ⟨l0, by simp [Mu.upd, e, h0], .inl rfl⟩

theorem upd_same {μ : Mu} {id : Nat} {l : Loc} (h : μ id = some l) : μ.upd id l = μ := by
  funext i
  by_cases e : i = id
  · subst e; simp [Mu.upd, h]
  · simp [Mu.upd, e]

theorem mul_lt_of_fit {i n sz m : Nat} (h : i < n) (hn : n * sz ≤ m) : i * sz + sz ≤ m := by
  have : (i + 1) * sz ≤ n * sz := Nat.mul_le_mul_right _ h
  rw [Nat.add_mul, Nat.one_mul] at this
  omega

theorem apart_of_ne {i k sz : Nat} (h : i ≠ k) : i * sz + sz ≤ k * sz ∨ k * sz + sz ≤ i * sz := by
  rcases Nat.lt_or_ge i k with hl | hl
  · exact .inl (mul_lt_of_fit hl (Nat.le_refl _))
  · exact .inr (mul_lt_of_fit (by omega) (Nat.le_refl _))

/-- Without a box's name the cells of a value need no boxes. -/
theorem cells_pure {w : World} {Y : Nat → Prop} {μ : Mu} {x : AV} (hrf : x.refs = []) {j : Nat} (hj : j < x.width) {v : Value}
    (h : Rep w Y μ ((cellsOf x).getD j .junk) v) (μ' : Mu) : Rep w Y μ' ((cellsOf x).getD j .junk) v := by
  refine Rep.pure h ?_ μ'
  cases x with
  | agg lx =>
    simp only [cellsOf, AV.refs] at hrf ⊢
    change j < lx.length at hj
    cases hq : (lx.getD j .junk).refs with
    | nil => rfl
    | cons q qs =>
      have := AV.mem_refsL (id := q) hj (by rw [hq]; simp)
      rw [hrf] at this
      cases this
  | _ =>
    change j < 1 at hj
    have : j = 0 := by omega
    rw [this]
    simpa [cellsOf] using hrf

/-- The element of a row of cells into which a value was put. -/
theorem rep_put {w w' : World} {Y : Nat → Prop} {M : Mu} (hkeep : ∀ b, ¬ Y b → b < w.heap.size → ¬ Y b ∧ w'.heap[b]? = w.heap[b]?) {e x : AV} {v : Value} {c : Array Value} {p o : Nat}
    (hfit : p + e.width ≤ c.size) (h1 : ∀ j, j < c.size → (c.getD j undef).oneCell' = true) (h : Rep w Y M e (elemVal e e.width c p))
    (hv : v.cells.size = x.width) (hx : ∀ j, j < x.width → (v.cells.getD j undef).oneCell' = true ∧ Rep w Y M ((cellsOf x).getD j .junk) (v.cells.getD j undef))
    (ho : o + x.width ≤ e.width) (hpos : 0 < x.width) :
    Rep w' Y M (setSub e o x) (elemVal (setSub e o x) e.width (c.toList.take (p + o) ++ v.cells.toList ++ c.toList.drop (p + o + v.cells.size)).toArray p) := by
  have hsize : (c.toList.take (p + o) ++ v.cells.toList ++ c.toList.drop (p + o + v.cells.size)).toArray.size = c.size := by
    have := splice_size c (p + o) v.cells.toList (by simp; omega)
    simpa using this
  have hget := splice_get c (p + o) v.cells (by omega)
  have hw' := setSub_width ho hpos
  have key := rep_elem (w := w') (Y := Y) (μ := M) (e := setSub e o x) (c := (c.toList.take (p + o) ++ v.cells.toList ++ c.toList.drop (p + o + v.cells.size)).toArray) (o0 := p)
    (by rw [hw', hsize]; omega) ?_ ?_
  · rw [hw'] at key; exact key
  · intro j hj1 hj2
    rw [hw'] at hj2
    rw [hget j (by omega)]
    split
    · exact (hx _ (by omega)).1
    · exact h1 j (by omega)
  · intro j hj
    rw [hw'] at hj
    rw [setSub_cells ho hpos hj, hget (p + j) (by omega), hv]
    by_cases hin : o ≤ j ∧ j < o + x.width
    · rw [if_pos hin, if_pos (by omega)]
      have e1 : p + j - (p + o) = j - o := by omega
      rw [e1]
      exact (hx (j - o) (by omega)).2.mono hkeep (Mu.later.refl _)
    · rw [if_neg hin, if_neg (by omega)]
      exact (rep_cell h hfit hj).mono hkeep (Mu.later.refl _)

/-- An element beside the cells that were put. -/
theorem rep_beside {w w' : World} {Y : Nat → Prop} {M : Mu} (hkeep : ∀ b, ¬ Y b → b < w.heap.size → ¬ Y b ∧ w'.heap[b]? = w.heap[b]?) {e : AV} {vs : Array Value} {c : Array Value} {p q : Nat}
    (hfit : p + e.width ≤ c.size) (h1 : ∀ j, j < c.size → (c.getD j undef).oneCell' = true) (h : Rep w Y M e (elemVal e e.width c p)) (hq : q + vs.size ≤ c.size)
    (hap : p + e.width ≤ q ∨ q + vs.size ≤ p) :
    Rep w' Y M e (elemVal e e.width (c.toList.take q ++ vs.toList ++ c.toList.drop (q + vs.size)).toArray p) := by
  have hsize : (c.toList.take q ++ vs.toList ++ c.toList.drop (q + vs.size)).toArray.size = c.size := by
    have := splice_size c q vs.toList (by simp; omega)
    simpa using this
  have hget := splice_get c q vs hq
  refine rep_elem (by rw [hsize]; omega) ?_ ?_
  · intro j hj1 hj2
    rw [hget j (by omega), if_neg (by omega)]
    exact h1 j (by omega)
  · intro j hj
    rw [hget (p + j) (by omega), if_neg (by omega)]
    exact (rep_cell h hfit hj).mono hkeep (Mu.later.refl _)

/-- A store into a part of an element of a box. -/
theorem store_box {P : Program} {T : TT} (hT : TOK P T) {t : Nat} {ti : TI} (ht : T t = some ti) {B : Base} {w : World} {a : Act} {s : St} {μ : Mu} (h : RelM B w a s μ)
    {id ver idx o : Nat} {b : Box} (hb : find s.mem id = some b) (hver : b.ver = ver) (hidx : idx < b.els.length) {x : AV} {v : Value} {p : Value}
    (hp : Rep w (Yof B.X μ) μ (.pt id ver idx o) p)
    (hx : Rep w (Yof B.X μ) μ x v) (hsol : x.solid s.mem) (hst : b.var = false → x.refs = []) (hsz : x.width = ti.size) (ho : o + x.width ≤ (b.els.getD idx .junk).width) :
    ∃ w', (Instr.storeAt t p v).run P w = .ok () w' ∧ RelM B w' a ⟨s.env, (id, some { b with els := b.els.set idx (setSub (b.els.getD idx .junk) o x) }) :: s.mem⟩ μ := by
  have hk := hT t ti ht
  obtain ⟨l, hm, hv, hs, hh⟩ := h.inv.box id b hb
  have hpos : 0 < x.width := by rw [hsz]; exact hk.pos
  cases hp with
  | ptOld hm' hv' => rw [hm] at hm'; cases hm'; omega
  | pt hm' hv' hbk hz =>
    rename_i loc g n
    rw [hm] at hm'
    cases hm'
    obtain ⟨lv, lsz, l0, lb⟩ := l
    simp only at hv hs hbk hv' hz
    subst hv hs hbk
    unfold Holds at hh
    obtain ⟨hbig, hcell, _⟩ := hh
    obtain ⟨c, el, hw, hcs, hn, h1, hr⟩ := hcell hz
    have hew := (hr idx hidx).1
    obtain ⟨hvc, hvr⟩ := hx.cells (hx.solid h.inv hsol)
    simp only at hn hr
    have hfi0 := mul_lt_of_fit hidx (Nat.le_refl (b.els.length * b.sz))
    have hfit : l0 + idx * b.sz + o + v.cells.size ≤ c.size := by omega
    have hst1 : ∀ u ∈ v.cells.toList, u.oneCell' = true := by
      intro u hu
      obtain ⟨j, hj, rfl⟩ := List.getElem_of_mem hu
      have hj' : j < v.cells.size := by simpa using hj
      have := (hvr j (by omega)).1
      simpa [Array.getD_eq_getD_getElem?, hj'] using this
    have hrun := run_storeCells_at P g (l0 + idx * b.sz + o) el v.cells.toList 0 c w hw (by simpa using hfit) hst1
    simp only [Nat.add_zero, Array.length_toList] at hrun
    have hxM : ∀ j, j < x.width → (v.cells.getD j undef).oneCell' = true ∧ Rep w (Yof B.X μ) (if b.var then μ else Mu.none) ((cellsOf x).getD j .junk) (v.cells.getD j undef) := by
      intro j hj
      refine ⟨(hvr j hj).1, ?_⟩
      cases hvar : b.var with
      | true => exact (hvr j hj).2
      | false => exact cells_pure (hst hvar) hj (hvr j hj).2 _
    refine ⟨w.setRow g (c.toList.take (l0 + idx * b.sz + o) ++ v.cells.toList ++ c.toList.drop (l0 + idx * b.sz + o + v.cells.size)).toArray, ?_, ?_⟩
    · have hne : ¬ (v.cells.size ≠ ti.size) := by rw [hvc, hsz]; simp
      simp [Instr.storeAt, Instr.sureAddr, storeVar, hk.run_size, hne, hrun]
    · have hg' := setRow_heap w g c (c.toList.take (l0 + idx * b.sz + o) ++ v.cells.toList ++ c.toList.drop (l0 + idx * b.sz + o + v.cells.size)).toArray el (0, 0) hw
      have := RelM.rebox (w' := w.setRow g (c.toList.take (l0 + idx * b.sz + o) ++ v.cells.toList ++ c.toList.drop (l0 + idx * b.sz + o + v.cells.size)).toArray) h id
        { b with els := b.els.set idx (setSub (b.els.getD idx .junk) o x) } ⟨b.ver, b.sz, l0, some (g, n)⟩ rfl rfl (later_same hm) (.inl hm) ⟨⟨rfl, Nat.le_refl _⟩, rfl, rfl⟩ (by simp)
        (fun g' _ hno => setRow_other w g g' _ (fun e => hno _ n hm (by rw [e]))) (fun g' n' hb' => .inl ⟨_, n', hm, hb'⟩) ?_
      · rw [upd_same hm] at this
        exact this
      · rw [upd_same hm]
        have hkeep : ∀ q, ¬ Yof B.X μ q → q < w.heap.size → ¬ Yof B.X μ q ∧ (w.setRow g (c.toList.take (l0 + idx * b.sz + o) ++ v.cells.toList ++ c.toList.drop (l0 + idx * b.sz + o + v.cells.size)).toArray).heap[q]? = w.heap[q]? :=
          fun b' hy _ => ⟨hy, setRow_other w g b' _ (fun e => hy (.inr ⟨id, _, n, hm, by rw [e]⟩))⟩
        unfold Holds
        have hsize : (c.toList.take (l0 + idx * b.sz + o) ++ v.cells.toList ++ c.toList.drop (l0 + idx * b.sz + o + v.cells.size)).toArray.size = c.size := by
          have := splice_size c (l0 + idx * b.sz + o) v.cells.toList (by simpa using hfit)
          simpa using this
        have hget := splice_get c (l0 + idx * b.sz + o) v.cells hfit
        refine ⟨by simpa using hbig, fun _ => ⟨_, el, hg', hsize.trans hcs, by simpa using hn, ?_, ?_⟩, fun h0 => absurd h0 hz⟩
        · intro j hj
          rw [hget j (by omega)]
          split
          · rename_i hin
            exact (hvr _ (by omega)).1
          · exact h1 j hj
        · intro i hi
          simp only [List.length_set] at hi
          have hfi := mul_lt_of_fit hi (Nat.le_refl (b.els.length * b.sz))
          by_cases e : i = idx
          · subst e
            have hgs : (b.els.set i (setSub (b.els.getD i .junk) o x)).getD i .junk = setSub (b.els.getD i .junk) o x := by simp [List.getD_eq_getElem?_getD, hi]
            simp only [hgs]
            refine ⟨(setSub_width ho hpos).trans hew, ?_⟩
            have hold := (hr i hi).2
            rw [← hew] at hold
            have := rep_put hkeep (by rw [hew]; omega) (fun j hj => h1 j (by omega)) hold hvc hxM ho hpos
            rw [hew] at this
            exact this
          · have hgs : (b.els.set idx (setSub (b.els.getD idx .junk) o x)).getD i .junk = b.els.getD i .junk := by
              simp [List.getD_eq_getElem?_getD, List.getElem?_set, Ne.symm e]
            simp only [hgs]
            refine ⟨(hr i hi).1, ?_⟩
            have hold := (hr i hi).2
            have hap := apart_of_ne (sz := b.sz) e
            have hwi := (hr i hi).1
            rw [← hwi] at hold
            have := rep_beside hkeep (by rw [hwi]; omega) (fun j hj => h1 j (by omega)) hold hfit (by rw [hwi]; omega)
            rw [hwi] at this
            exact this

end Go.Abs
end

section
/- The value layer, part 5: new boxes, appends. -/
namespace Go.Abs

theorem upd_keeps {B : Base} {w w' : World} {a : Act} {s : St} {μ : Mu} (h : RelM B w a s μ) {id : Nat} {l : Loc} (hgr : Grows w w')
    (hnew : ∀ g n, l.blk = some (g, n) → w.heap.size ≤ g) :
    ∀ q, ¬ Yof B.X μ q → q < w.heap.size → ¬ Yof B.X (μ.upd id l) q ∧ w'.heap[q]? = w.heap[q]? := by
  intro q hy hq
  refine ⟨fun hy' => ?_, hgr.2.2.2.2 q hq⟩
  rcases hy' with hx | hb
  · exact hy (.inl hx)
  · rcases blks_upd hb with ⟨n, hl⟩ | ⟨i, l', n, _, hm, hb'⟩
    · have := hnew q n hl; omega
    · exact hy (.inr ⟨i, l', n, hm, hb'⟩)

/-- A new box: its block is new. -/
theorem new_box {B : Base} {w : World} {a : Act} {s : St} {μ : Mu} (h : RelM B w a s μ) (d : Nat) (sz : Nat) (els : List AV) (var : Bool) (cs : Array Value) (el : TypeId)
    (hsz0 : sz ≠ 0) (hbig : els.length ≤ big) (hn : els.length * sz ≤ cs.size) (h1 : ∀ j, j < cs.size → (cs.getD j undef).oneCell' = true)
    (hr : ∀ i, i < els.length → (els.getD i .junk).width = sz ∧ Rep w (Yof B.X μ) (if var then μ else Mu.none) (els.getD i .junk) (elemVal (els.getD i .junk) sz cs (i * sz))) :
    RelM B (w.alloc (.cells cs el)) a ⟨s.env, (d, some ⟨sz, els, nver s.mem d, var⟩) :: s.mem⟩ (μ.upd d ⟨nver s.mem d, sz, 0, some (w.heap.size, cs.size)⟩) := by
  have hnew : ∀ g n, (⟨nver s.mem d, sz, 0, some (w.heap.size, cs.size)⟩ : Loc).blk = some (g, n) → w.heap.size ≤ g := by
    intro g n e
    simp only [Option.some.injEq, Prod.mk.injEq] at e
    omega
  have hlater := later_upd h.inv d ⟨nver s.mem d, sz, 0, some (w.heap.size, cs.size)⟩ (Nat.le_refl _)
  have hkeep := upd_keeps (id := d) (l := ⟨nver s.mem d, sz, 0, some (w.heap.size, cs.size)⟩) h (Grows.alloc w (.cells cs el)) hnew
  refine RelM.rebox h d ⟨sz, els, nver s.mem d, var⟩ ⟨nver s.mem d, sz, 0, some (w.heap.size, cs.size)⟩ rfl rfl hlater (.inr (zero_upd h.inv d ⟨nver s.mem d, sz, 0, some (w.heap.size, cs.size)⟩ (Nat.le_refl _))) ⟨⟨rfl, Nat.le_refl _⟩, rfl, rfl⟩ (by simp) (fun g hg _ => alloc_old w _ hg)
    (fun g n e => .inr (hnew g n e)) ?_
  refine ⟨hbig, fun _ => ⟨cs, el, alloc_new w _, rfl, by simpa using hn, h1, fun i hi => ⟨(hr i hi).1, ?_⟩⟩, fun h0 => absurd h0 hsz0⟩
  have := (hr i hi).2
  simp only [Nat.zero_add]
  cases var with
  | false => exact this.mono hkeep (Mu.later.refl _)
  | true => exact this.mono hkeep hlater

/-- A new box without a block. -/
theorem nil_box {B : Base} {w : World} {a : Act} {s : St} {μ : Mu} (h : RelM B w a s μ) (d : Nat) (sz : Nat) (var : Bool) :
    RelM B w a ⟨s.env, (d, some ⟨sz, [], nver s.mem d, var⟩) :: s.mem⟩ (μ.upd d ⟨nver s.mem d, sz, 0, none⟩) := by
  refine RelM.rebox h d ⟨sz, [], nver s.mem d, var⟩ ⟨nver s.mem d, sz, 0, none⟩ rfl rfl (later_upd h.inv d _ (Nat.le_refl _)) (.inr (zero_upd h.inv d ⟨nver s.mem d, sz, 0, none⟩ (Nat.le_refl _))) ⟨⟨rfl, Nat.le_refl _⟩, rfl, rfl⟩ (Nat.le_refl _) (fun g hg _ => rfl)
    (fun g n e => by cases e) ?_
  exact ⟨Nat.zero_le _, rfl⟩

/-- What an immutable slice says of its cells. -/
theorem Rep.seq_cells {w : World} {Y : Nat → Prop} {μ : Mu} {sz : Nat} {l : List AV} {full : Bool} {v : Value} (h : Rep w Y μ (.seq sz l full) v) :
    (l = [] ∧ ∃ p, v = .slice p 0 0) ∨ ∃ b off cap c el fr, v = .slice (some ⟨b, off, none⟩) l.length cap ∧ ¬ Y b ∧ w.heap[b]? = some (.cells c el fr) ∧ l.length ≤ cap ∧ (full = true → cap = l.length) ∧ l.length ≤ big ∧
      off + l.length * sz ≤ c.size ∧ (∀ i, i < l.length → (l.getD i .junk).width = sz) ∧ (∀ j, off ≤ j → j < off + l.length * sz → (c.getD j undef).oneCell' = true) ∧
      ∀ i, i < l.length → Rep w Y Mu.none (l.getD i .junk) (elemVal (l.getD i .junk) sz c (off + i * sz)) := by
  cases h with
  | nil => exact .inl ⟨rfl, _, rfl⟩
  | seq hY hb hc hf hbig hfit hw h1 h => exact .inr ⟨_, _, _, _, _, _, rfl, hY, hb, hc, hf, hbig, hfit, hw, h1, h⟩

theorem Rep.seq_len {w : World} {Y : Nat → Prop} {μ : Mu} {sz : Nat} {l : List AV} {full : Bool} {v : Value} (h : Rep w Y μ (.seq sz l full) v) :
    ∃ p cap, v = .slice p l.length cap := by
  rcases h.seq_cells with ⟨rfl, p, rfl⟩ | ⟨b, off, cap, c, el, fr, rfl, _⟩
  · exact ⟨_, _, rfl⟩
  · exact ⟨_, _, rfl⟩

/-- The elements that can be read off a slice of any kind: in these cells of this block. -/
theorem Rep.upv {w w' : World} {Y Y' : Nat → Prop} {μ μ' : Mu} {a : AV} {v : Value} {v1 v2 : Bool} (h : Rep w Y (if v1 then μ else Mu.none) a v) (h12 : v1 = true → v2 = true)
    (hk : ∀ b, ¬ Y b → b < w.heap.size → ¬ Y' b ∧ w'.heap[b]? = w.heap[b]?) (hl : μ.later μ') : Rep w' Y' (if v2 then μ' else Mu.none) a v := by
  cases v1 <;> cases v2
  · exact h.mono hk (Mu.later.refl _)
  · exact h.mono hk (Mu.none_later μ')
  · exact absurd (h12 rfl) (by simp)
  · exact h.mono hk hl
structure Cellsed (w : World) (Y : Nat → Prop) (ν : Mu) (sz : Nat) (l : List AV) (v : Value) : Prop where
  out : (l = [] ∧ ∃ p cap, v = .slice p 0 cap) ∨ ∃ b off cap c el fr, v = .slice (some ⟨b, off, none⟩) l.length cap ∧ w.heap[b]? = some (.cells c el fr) ∧
      off + l.length * sz ≤ c.size ∧ (∀ j, off ≤ j → j < off + l.length * sz → (c.getD j undef).oneCell' = true) ∧
      ∀ i, i < l.length → (l.getD i .junk).width = sz ∧ Rep w Y ν (l.getD i .junk) (elemVal (l.getD i .junk) sz c (off + i * sz))
  big : l.length ≤ big

theorem Rep.seq_cellsed {w : World} {Y : Nat → Prop} {μ : Mu} {sz : Nat} {l : List AV} {full : Bool} {v : Value} (h : Rep w Y μ (.seq sz l full) v) {ν : Mu} : Cellsed w Y ν sz l v := by
  rcases h.seq_cells with ⟨rfl, p, rfl⟩ | ⟨b, off, cap, c, el, fr, rfl, _, hb, _, _, hbig, hfit, hw, h1, hr⟩
  · exact ⟨.inl ⟨rfl, _, _, rfl⟩, Nat.zero_le _⟩
  · exact ⟨.inr ⟨b, off, cap, c, el, fr, rfl, hb, hfit, h1, fun i hi => ⟨hw i hi, (hr i hi).mono (fun b hy _ => ⟨hy, rfl⟩) (Mu.none_later ν)⟩⟩, hbig⟩

/-- What a slice of a box says of its cells. -/
theorem sl_cellsed {B : Base} {w : World} {a : Act} {s : St} {μ : Mu} (h : RelM B w a s μ) {id ver off len : Nat} {b : Box} (hb : find s.mem id = some b) (hver : b.ver = ver)
    (hlen : off + len ≤ b.els.length) {v : Value} (hv : Rep w (Yof B.X μ) μ (.sl id ver off len) v) : Cellsed w (Yof B.X μ) (if b.var then μ else Mu.none) b.sz ((b.els.drop off).take len) v := by
  obtain ⟨l, hm, hlv, hs, hh⟩ := h.inv.box id b hb
  have hl : ((b.els.drop off).take len).length = len := by simp; omega
  have hbig : b.els.length ≤ big := hh.1
  refine ⟨?_, by omega⟩
  cases hv with
  | slOld hm' hv' => rw [hm] at hm'; cases hm'; omega
  | slNil hm' hv' hnf => exact .inl ⟨by simp, _, _, rfl⟩
  | sl hm' hv' hbk hc hfit hz =>
    rename_i cap loc g n
    rw [hm] at hm'; cases hm'
    obtain ⟨lv, lsz, l0, lb⟩ := l
    simp only at hlv hs hbk hv' hfit hz
    subst hlv hs hbk
    obtain ⟨_, hcell, _⟩ := hh
    obtain ⟨c, el, hw, hcs, hn, h1, hr⟩ := hcell hz
    simp only at hn hr
    have e0 : (off + len) * b.sz ≤ b.els.length * b.sz := Nat.mul_le_mul_right _ hlen
    rw [Nat.add_mul] at e0
    refine .inr ⟨g, l0 + off * b.sz, cap, c, el, (0, 0), by rw [hl], hw, by rw [hl]; omega, fun j _ hj => h1 j (by rw [hl] at hj; omega), fun i hi => ?_⟩
    rw [hl] at hi
    have hget : ((b.els.drop off).take len).getD i .junk = b.els.getD (off + i) .junk := by simp [List.getD_eq_getElem?_getD, List.getElem?_take, hi]
    have := hr (off + i) (by omega)
    rw [hget, Nat.add_assoc, ← Nat.add_mul]
    exact this

theorem Cellsed.up {w : World} {Y : Nat → Prop} {μ : Mu} {v1 v2 : Bool} {sz : Nat} {l : List AV} {v : Value} (h : Cellsed w Y (if v1 then μ else Mu.none) sz l v) (h12 : v1 = true → v2 = true) : Cellsed w Y (if v2 then μ else Mu.none) sz l v := by
  refine ⟨?_, h.big⟩
  rcases h.out with h1 | ⟨b, off, cap, c, el, fr, rfl, hw, hfit, h1, hr⟩
  · exact .inl h1
  · exact .inr ⟨b, off, cap, c, el, fr, rfl, hw, hfit, h1, fun i hi => ⟨(hr i hi).1, (hr i hi).2.upv h12 (fun b hy _ => ⟨hy, rfl⟩) (Mu.later.refl _)⟩⟩
theorem Cellsed.mono {w w' : World} {Y Y' : Nat → Prop} {ν : Mu} {sz : Nat} {l : List AV} {v : Value} (h : Cellsed w Y ν sz l v)
    (hk : ∀ b, ¬ Y b → b < w.heap.size → ¬ Y' b ∧ w'.heap[b]? = w.heap[b]?) (hb : ∀ p n cap, v = .slice (some p) n cap → w'.heap[p.block]? = w.heap[p.block]?) : Cellsed w' Y' ν sz l v := by
  refine ⟨?_, h.big⟩
  rcases h.out with h1 | ⟨b, off, cap, c, el, fr, rfl, hw, hfit, h1, hr⟩
  · exact .inl h1
  · exact .inr ⟨b, off, cap, c, el, fr, rfl, (hb _ _ _ rfl).trans hw, hfit, h1, fun i hi => ⟨(hr i hi).1, (hr i hi).2.mono hk (Mu.later.refl _)⟩⟩

/-- The cells that an append reads. -/
theorem Cellsed.first {P : Program} {w : World} {Y : Nat → Prop} {ν : Mu} {sz : Nat} {l : List AV} {v : Value} (h : Cellsed w Y ν sz l v) :
    ∃ cs : Array Value, (Builtin.firstCells sz l.length v).run P w = .ok cs w ∧ cs.size = l.length * sz ∧ (∀ j, j < cs.size → (cs.getD j undef).oneCell' = true) ∧
      (∃ p cap, v = .slice p l.length cap) ∧
      ∀ i, i < l.length → (l.getD i .junk).width = sz ∧ Rep w Y ν (l.getD i .junk) (elemVal (l.getD i .junk) sz cs (i * sz)) := by
  rcases h.out with ⟨rfl, p, cap, rfl⟩ | ⟨b, off, cap, c, el, fr, rfl, hw, hfit, h1, hr⟩
  · refine ⟨#[], ?_, by simp, by simp, ⟨_, _, rfl⟩, by simp⟩
    cases p <;> simp [Builtin.firstCells, loadCells, loadCellsFrom]
  · refine ⟨c.extract off (off + l.length * sz), ?_, by simp; omega, ?_, ⟨_, _, rfl⟩, fun i hi => ⟨(hr i hi).1, ?_⟩⟩
    · simp [Builtin.firstCells, run_loadCells_at hw hfit]
    · intro j hj
      simp only [Array.size_extract] at hj
      have : (c.extract off (off + l.length * sz)).getD j undef = c.getD (off + j) undef := by
        simp only [Array.getD_eq_getD_getElem?]
        rw [Array.getElem?_extract, if_pos (by omega)]
      rw [this]
      exact h1 _ (by omega) (by omega)
    · have hfi := mul_lt_of_fit hi (Nat.le_refl (l.length * sz))
      have hwid := (hr i hi).1
      have hrep := (hr i hi).2
      have : elemVal (l.getD i .junk) sz (c.extract off (off + l.length * sz)) (i * sz) = elemVal (l.getD i .junk) sz c (off + i * sz) := by
        cases hq : l.getD i .junk with
        | agg q =>
          simp only [elemVal]
          congr 1
          rw [Array.extract_extract]
          congr 1
          omega
        | _ =>
          simp only [elemVal]
          rw [hq] at hwid
          change 1 = sz at hwid
          simp only [Array.getD_eq_getD_getElem?]
          rw [Array.getElem?_extract, if_pos (by omega)]
      rw [this]
      exact hrep

end Go.Abs
end

section
/- The value layer, part 6: append. -/
namespace Go.Abs

theorem elemVal_congr {e : AV} {sz : Nat} (hw : e.width = sz) {c c' : Array Value} {o o' : Nat} (hf : o + sz ≤ c.size) (hf' : o' + sz ≤ c'.size)
    (h : ∀ j, j < sz → c.getD (o + j) undef = c'.getD (o' + j) undef) : elemVal e sz c o = elemVal e sz c' o' := by
  cases e with
  | agg l =>
    simp only [elemVal]
    congr 1
    apply Array.ext
    · simp; omega
    · intro i h1 h2
      have hi : i < sz := by simp at h1; omega
      have := h i hi
      simp only [Array.getElem_extract]
      simpa [Array.getD_eq_getD_getElem?, show o + i < c.size by omega, show o' + i < c'.size by omega] using this
  | _ =>
    change 1 = sz at hw
    simpa [elemVal] using h 0 (by omega)

section
variable {P : Program} {w : World} {t t' ty e e' : TypeId} {i : TypeInfo} (ht : P.underlying t = some (.slice e)) (ht' : P.underlying t' = some (.slice e')) (hi : P.info? e = some i)
include ht ht' hi
theorem run_append_nothing {p : Option Addr} {n m cap : Nat} {q : Option Addr} {qc : Nat} {cs : Array Value} (hcs : (Builtin.firstCells i.size m (.slice q m qc)).run P w = .ok cs w) (h0 : cs = #[]) (hroom : n + m ≤ cap) :
    (Builtin.append_ #[t, t'] ty #[.slice p n cap, .slice q m qc]).run P w = .ok (.slice p (n + m) cap) w := by
  subst h0
  cases p <;> simp [Builtin.append_, run_underlying ht, run_underlying ht', sizeOf, typeInfo, hi, Builtin.lenOf, hroom, hcs, storeCells]
theorem run_append_in {g o n m cap : Nat} {q : Option Addr} {qc : Nat} {cs c : Array Value} {el : TypeId} (hcs : (Builtin.firstCells i.size m (.slice q m qc)).run P w = .ok cs w) (hroom : n + m ≤ cap)
    (hg : w.heap[g]? = some (.cells c el (0, 0))) (hfit : o + n * i.size + cs.size ≤ c.size) (h1 : ∀ u ∈ cs.toList, u.oneCell' = true) :
    (Builtin.append_ #[t, t'] ty #[.slice (some ⟨g, o, none⟩) n cap, .slice q m qc]).run P w =
      .ok (.slice (some ⟨g, o, none⟩) (n + m) cap) (w.setRow g (c.toList.take (o + n * i.size) ++ cs.toList ++ c.toList.drop (o + n * i.size + cs.size)).toArray) := by
  have hrun := run_storeCells_at P g (o + n * i.size) el cs.toList 0 c w hg (by simpa using hfit) h1
  simp only [Nat.add_zero, Array.length_toList] at hrun
  simp [Builtin.append_, run_underlying ht, run_underlying ht', sizeOf, typeInfo, hi, Builtin.lenOf, hroom, hcs, addr_add, hrun]
theorem run_append_out {p : Option Addr} {z : Value} {n m cap : Nat} {q : Option Addr} {qc : Nat} {cs os : Array Value} (hz : i.zero = some z) (hcs : (Builtin.firstCells i.size m (.slice q m qc)).run P w.drew = .ok cs w.drew)
    (hos : (Builtin.firstCells i.size n (.slice p n cap)).run P w.drew = .ok os w.drew) (hg : cap < n + m) (hbig : n + m ≤ 2 ^ 30) (hb : i.bytes ≤ 4096) :
    (Builtin.append_ #[t, t'] ty #[.slice p n cap, .slice q m qc]).run P w =
      .ok (.slice (some ⟨w.heap.size, 0, none⟩) (n + m) (grownCap w (n + m) cap e)) (w.drew.alloc (.cells (os ++ cs ++ Builtin.zeroCells z.cells (grownCap w (n + m) cap e - (n + m))) e)) := by
  have hn : ¬ (n + m ≤ cap) := by omega
  have h63' : ¬ (9223372036854775807 < ((n : Int) + (m : Int))) := by omega
  have hle : (n + m) * i.bytes ≤ 140737488355328 := by
    have := Nat.mul_le_mul hbig hb
    omega
  have hfit := growslice_fits hg hle
  have h48' : ¬ (281474976710656 < Builtin.nextslicecap (n + m) cap * i.bytes) := by omega
  simp [Builtin.append_, run_underlying ht, run_underlying ht', sizeOf, typeInfo, zeroValue, hi, hz, Builtin.lenOf, hn, h63', h48', Question.forced, hcs, hos, newRow, grownCap]
end

/-- The elements of two rows of cells, one behind the other. -/
theorem rep_joined {w : World} {Y : Nat → Prop} {ν : Mu} {sz : Nat} {xs ys : List AV} {A Bc Z : Array Value} (hA : A.size = xs.length * sz) (hB : Bc.size = ys.length * sz)
    (hx : ∀ i, i < xs.length → (xs.getD i .junk).width = sz ∧ Rep w Y ν (xs.getD i .junk) (elemVal (xs.getD i .junk) sz A (i * sz)))
    (hy : ∀ i, i < ys.length → (ys.getD i .junk).width = sz ∧ Rep w Y ν (ys.getD i .junk) (elemVal (ys.getD i .junk) sz Bc (i * sz))) :
    ∀ i, i < (xs ++ ys).length → ((xs ++ ys).getD i .junk).width = sz ∧ Rep w Y ν ((xs ++ ys).getD i .junk) (elemVal ((xs ++ ys).getD i .junk) sz (A ++ Bc ++ Z) (i * sz)) := by
  intro i hi
  simp only [List.length_append] at hi
  by_cases h : i < xs.length
  · have hg : (xs ++ ys).getD i .junk = xs.getD i .junk := by simp [List.getD_eq_getElem?_getD, List.getElem?_append, h]
    rw [hg]
    have hfi := mul_lt_of_fit h (Nat.le_refl (xs.length * sz))
    refine ⟨(hx i h).1, ?_⟩
    rw [← elemVal_congr (hx i h).1 (c := A) (o := i * sz) (by omega) (by simp; omega) (fun j hj => ?_)]
    · exact (hx i h).2
    · simp only [Array.getD_eq_getD_getElem?, Array.getElem?_append, Array.size_append]
      rw [if_pos (by omega), if_pos (by omega)]
  · have hk : i - xs.length < ys.length := by omega
    have hg : (xs ++ ys).getD i .junk = ys.getD (i - xs.length) .junk := by simp [List.getD_eq_getElem?_getD, List.getElem?_append, h]
    rw [hg]
    have hfi := mul_lt_of_fit hk (Nat.le_refl (ys.length * sz))
    have he : i * sz = xs.length * sz + (i - xs.length) * sz := by rw [← Nat.add_mul]; congr 1; omega
    refine ⟨(hy _ hk).1, ?_⟩
    rw [← elemVal_congr (hy _ hk).1 (c := Bc) (o := (i - xs.length) * sz) (by omega) (by simp; omega) (fun j hj => ?_)]
    · exact (hy _ hk).2
    · simp only [Array.getD_eq_getD_getElem?, Array.getElem?_append, Array.size_append]
      rw [if_pos (by omega), if_neg (by omega)]
      congr 2
      omega

theorem one_of_getD {c : Array Value} (h : ∀ j, j < c.size → (c.getD j undef).oneCell' = true) : ∀ u ∈ c.toList, u.oneCell' = true := by
  intro u hu
  obtain ⟨j, hj, rfl⟩ := List.getElem_of_mem hu
  have hj' : j < c.size := by simpa using hj
  simpa [Array.getD_eq_getD_getElem?, hj'] using h j hj'

theorem one_append {a b : Array Value} (ha : ∀ j, j < a.size → (a.getD j undef).oneCell' = true) (hb : ∀ j, j < b.size → (b.getD j undef).oneCell' = true) :
    ∀ j, j < (a ++ b).size → ((a ++ b).getD j undef).oneCell' = true := by
  intro j hj
  simp only [Array.getD_eq_getD_getElem?, Array.getElem?_append]
  split
  · rename_i h; simpa [Array.getD_eq_getD_getElem?] using ha j h
  · rename_i h
    have := hb (j - a.size) (by simp at hj; omega)
    simpa [Array.getD_eq_getD_getElem?] using this

theorem one_zeros {z : Array Value} (hz : ∀ j, j < z.size → (z.getD j undef).oneCell' = true) (hp : 0 < z.size) (n : Nat) :
    ∀ j, j < (Builtin.zeroCells z n).size → ((Builtin.zeroCells z n).getD j undef).oneCell' = true := by
  intro j hj
  have hj' : j < n * z.size := by simpa [Builtin.zeroCells] using hj
  have hm : j % z.size < z.size := Nat.mod_lt _ hp
  have := hz (j % z.size) hm
  simpa [Builtin.zeroCells, Array.getD_eq_getD_getElem?, hj', hm] using this

/-- An append that needs a new block. -/
theorem append_out {P : Program} {T : TT} (hT : TOK P T) {t t' e e' ty : Nat} {ti ti' tie : TI} (ht : T t = some ti) (hk : ti.kind = .slice e) (ht' : T t' = some ti') (hk' : ti'.kind = .slice e') (hte : T e = some tie)
    {B : Base} {w : World} {a : Act} {s : St} {μ : Mu} (h : RelM B w a s μ) (d : Nat) (var : Bool) {xs ys : List AV} {p : Option Addr} {cap : Nat} {x : Value}
    (hv : Cellsed w (Yof B.X μ) (if var then μ else Mu.none) tie.size xs (.slice p xs.length cap)) (hx : Cellsed w (Yof B.X μ) (if var then μ else Mu.none) tie.size ys x) (hg : cap < xs.length + ys.length) (hbig : xs.length + ys.length ≤ 2 ^ 30) :
    ∃ v' w' μ', (Builtin.append_ #[t, t'] ty #[.slice p xs.length cap, x]).run P w = .ok v' w' ∧ RelM B w' a ⟨s.env, (d, some ⟨tie.size, xs ++ ys, nver s.mem d, var⟩) :: s.mem⟩ μ' ∧
      Rep w' (Yof B.X μ') μ' (.sl d (nver s.mem d) 0 (xs.length + ys.length)) v' := by
  obtain ⟨dd, hd, hkd⟩ := (hT t ti ht).desc
  rw [hk] at hkd
  simp only [TK.desc] at hkd
  subst hkd
  obtain ⟨dd, hd', hkd⟩ := (hT t' ti' ht').desc
  rw [hk'] at hkd
  simp only [TK.desc] at hkd
  subst hkd
  obtain ⟨i, z, hi, hsz, hby, hz, hzc, hz1, _⟩ := (hT e tie hte).info
  have hpos := (hT e tie hte).pos
  have hbd := (hT e tie hte).bound
  have hd1 := h.grows (Grows.drew w)
  have hv' := hv.mono (w' := w.drew) (Y' := Yof B.X μ) (fun b hy _ => ⟨hy, rfl⟩) (fun _ _ _ _ => rfl)
  have hx' := hx.mono (w' := w.drew) (Y' := Yof B.X μ) (fun b hy _ => ⟨hy, rfl⟩) (fun _ _ _ _ => rfl)
  obtain ⟨os, hos, hosz, hos1, _, hor⟩ := hv'.first (P := P)
  obtain ⟨cs, hcs, hcsz, hcs1, ⟨q, qc, rfl⟩, hcr⟩ := hx'.first (P := P)
  have hrun := run_append_out (P := P) (w := w) (ty := ty) hd hd' hi hz (n := xs.length) (m := ys.length) (by rw [hsz]; exact hcs) (by rw [hsz]; exact hos) hg hbig (by omega)
  have hge := grownCap_ge w (xs.length + ys.length) cap e
  have hzs : (Builtin.zeroCells z.cells (grownCap w (xs.length + ys.length) cap e - (xs.length + ys.length))).size = (grownCap w (xs.length + ys.length) cap e - (xs.length + ys.length)) * tie.size := by rw [size_zeroCells, hzc]
  have htot : (os ++ cs ++ Builtin.zeroCells z.cells (grownCap w (xs.length + ys.length) cap e - (xs.length + ys.length))).size = grownCap w (xs.length + ys.length) cap e * tie.size := by
    simp only [Array.size_append, hosz, hcsz, hzs, ← Nat.add_mul]
    congr 1
    omega
  have hnb := new_box hd1 d tie.size (xs ++ ys) var (os ++ cs ++ Builtin.zeroCells z.cells (grownCap w (xs.length + ys.length) cap e - (xs.length + ys.length))) e
    (by omega) (by simp only [List.length_append, big]; omega)
    (by rw [htot, List.length_append]; exact Nat.mul_le_mul_right _ hge)
    (one_append (one_append hos1 hcs1) (one_zeros (by rw [hzc]; exact hz1) (by omega) _))
    (rep_joined hosz hcsz hor hcr)
  refine ⟨_, _, _, hrun, hnb, ?_⟩
  have := Rep.sl (w := w.drew.alloc (.cells (os ++ cs ++ Builtin.zeroCells z.cells (grownCap w (xs.length + ys.length) cap e - (xs.length + ys.length))) e))
    (Y := Yof B.X (μ.upd d ⟨nver s.mem d, tie.size, 0, some (w.drew.heap.size, (os ++ cs ++ Builtin.zeroCells z.cells (grownCap w (xs.length + ys.length) cap e - (xs.length + ys.length))).size)⟩))
    (μ := μ.upd d ⟨nver s.mem d, tie.size, 0, some (w.drew.heap.size, (os ++ cs ++ Builtin.zeroCells z.cells (grownCap w (xs.length + ys.length) cap e - (xs.length + ys.length))).size)⟩)
    (id := d) (ver := nver s.mem d) (off := 0) (len := xs.length + ys.length) (cap := grownCap w (xs.length + ys.length) cap e)
    (loc := ⟨nver s.mem d, tie.size, 0, some (w.drew.heap.size, (os ++ cs ++ Builtin.zeroCells z.cells (grownCap w (xs.length + ys.length) cap e - (xs.length + ys.length))).size)⟩)
    (by simp [Mu.upd]) rfl rfl hge (by simp only [Nat.zero_add]; rw [htot]) (by show tie.size ≠ 0; omega)
  simpa using this

/-! ### elements of which some are put at once -/
def putEls (els : List AV) (o : Nat) (ys : List AV) : List AV := els.take o ++ ys ++ els.drop (o + ys.length)
theorem putEls_nil (els : List AV) (o : Nat) : putEls els o [] = els := by simp [putEls]
theorem putEls_length {els ys : List AV} {o : Nat} (h : o + ys.length ≤ els.length) : (putEls els o ys).length = els.length := by
  simp [putEls]; omega
theorem putEls_get {els ys : List AV} {o : Nat} (h : o + ys.length ≤ els.length) {i : Nat} (hi : i < els.length) :
    (putEls els o ys).getD i .junk = if o ≤ i ∧ i < o + ys.length then ys.getD (i - o) .junk else els.getD i .junk := by
  simp only [putEls, List.getD_eq_getElem?_getD, List.getElem?_append, List.length_append, List.length_take]
  by_cases h1 : i < o
  · have h2 : i < min o els.length + ys.length := by omega
    have h3 : i < min o els.length := by omega
    have h4 : ¬ (o ≤ i ∧ i < o + ys.length) := by omega
    rw [if_pos h2, if_pos h3, if_neg h4, List.getElem?_take, if_pos h1]
  · by_cases h2 : i < o + ys.length
    · have h3 : i < min o els.length + ys.length := by omega
      have h4 : ¬ i < min o els.length := by omega
      have h5 : o ≤ i ∧ i < o + ys.length := by omega
      have h6 : min o els.length = o := by omega
      rw [if_pos h3, if_neg h4, if_pos h5, h6]
    · have h3 : ¬ i < min o els.length + ys.length := by omega
      have h5 : ¬ (o ≤ i ∧ i < o + ys.length) := by omega
      have h6 : min o els.length = o := by omega
      rw [if_neg h3, if_neg h5, h6, List.getElem?_drop]
      congr 2
      omega

/-- A box is noted once more. -/
theorem relM_readd {B : Base} {w : World} {a : Act} {s : St} {μ : Mu} (h : RelM B w a s μ) {id : Nat} {b : Box} (hb : find s.mem id = some b) : RelM B w a ⟨s.env, (id, some b) :: s.mem⟩ μ := by
  have hfind : ∀ i, find ((id, some b) :: s.mem) i = find s.mem i := by
    intro i
    simp only [find]
    split
    · rename_i e; rw [e]; exact hb.symm
    · rfl
  exact ⟨h.defers, h.size, ⟨fun i hi => h.inv.no i (by rw [← hfind]; exact hi), fun i b' hf => h.inv.box i b' (by rw [← hfind]; exact hf), h.inv.apart, h.inv.out⟩, h.env, h.ext, h.mine, h.base, h.kept⟩

/-- A slice's room reaches at least to the end of its box's elements. -/
theorem sl_room {B : Base} {w : World} {a : Act} {s : St} {μ : Mu} (h : RelM B w a s μ) {id ver off len : Nat} {b : Box} (hb : find s.mem id = some b) (hver : b.ver = ver) (hsz : b.sz ≠ 0) {p : Option Addr} {n cap : Nat}
    (hv : Rep w (Yof B.X μ) μ (.sl id ver off len) (.slice p n cap)) : b.els.length ≤ off + cap := by
  obtain ⟨l, hm, hlv, hs, hh⟩ := h.inv.box id b hb
  have hpos := Nat.pos_of_ne_zero hsz
  cases hv with
  | slOld hm' hv' => rw [hm] at hm'; cases hm'; omega
  | slNil hm' hv' hnf =>
    rw [hm] at hm'; cases hm'
    unfold Holds at hh
    cases hbk : l.blk with
    | none =>
      rw [hbk] at hh
      have : b.els = [] := hh.2
      simp [this]
    | some gn =>
      obtain ⟨g, m⟩ := gn
      rw [hbk] at hh
      obtain ⟨c, el, _, hcs, hn, _⟩ := hh.2.1 hsz
      have h1 := hnf g m hbk (by rw [hs]; exact hsz)
      rw [hs] at h1
      have h2 : b.els.length * b.sz ≤ off * b.sz := by omega
      have := Nat.le_of_mul_le_mul_right h2 hpos
      omega
  | sl hm' hv' hbk hc hfit hz =>
    rw [hm] at hm'; cases hm'
    unfold Holds at hh
    rw [hbk] at hh
    obtain ⟨c, el, _, hcs, hn, _⟩ := hh.2.1 hsz
    rw [hs] at hfit
    have h2 : b.els.length * b.sz ≤ (off + cap) * b.sz := by omega
    exact Nat.le_of_mul_le_mul_right h2 hpos

/-- An append for which the box has room. -/
theorem append_room {P : Program} {T : TT} (hT : TOK P T) {t t' e e' ty : Nat} {ti ti' tie : TI} (ht : T t = some ti) (hk : ti.kind = .slice e) (ht' : T t' = some ti') (hk' : ti'.kind = .slice e') (hte : T e = some tie)
    {B : Base} {w : World} {a : Act} {s : St} {μ : Mu} (h : RelM B w a s μ) {id ver off len : Nat} {b : Box} (hb : find s.mem id = some b) (hver : b.ver = ver) (hvar : b.var = false) (hbs : b.sz = tie.size)
    {v x : Value} (hv : Rep w (Yof B.X μ) μ (.sl id ver off len) v) {ys : List AV} (hx : Cellsed w (Yof B.X μ) Mu.none tie.size ys x) (hlen : off + len + ys.length ≤ b.els.length) :
    ∃ v' w', (Builtin.append_ #[t, t'] ty #[v, x]).run P w = .ok v' w' ∧ RelM B w' a ⟨s.env, (id, some { b with els := putEls b.els (off + len) ys }) :: s.mem⟩ μ ∧
      Rep w' (Yof B.X μ) μ (.sl id ver off (len + ys.length)) v' := by
  obtain ⟨l, hm, hlv, hs, hh⟩ := h.inv.box id b hb
  obtain ⟨dd, hd, hkd⟩ := (hT t ti ht).desc
  rw [hk] at hkd
  simp only [TK.desc] at hkd
  subst hkd
  obtain ⟨dd, hd', hkd⟩ := (hT t' ti' ht').desc
  rw [hk'] at hkd
  simp only [TK.desc] at hkd
  subst hkd
  obtain ⟨i, z, hi, hsz, hby, hz, hzc, hz1, _⟩ := (hT e tie hte).info
  have hpos := (hT e tie hte).pos
  obtain ⟨cs, hcs, hcsz, hcs1, ⟨q, qc, rfl⟩, hcr⟩ := hx.first (P := P)
  have hroom0 : ∀ p n cap, v = .slice p n cap → b.els.length ≤ off + cap := fun p n cap e => by
    rw [e] at hv
    exact sl_room h hb hver (by omega) hv
  cases hv with
  | slOld hm' hv' => rw [hm] at hm'; cases hm'; omega
  | slNil hm' hv' hnf =>
    rename_i loc p
    have := hroom0 _ _ _ rfl
    have hy0 : ys = [] := List.eq_nil_of_length_eq_zero (by omega)
    subst hy0
    have hcs0 : cs = #[] := Array.eq_empty_of_size_eq_zero (by simpa using hcsz)
    have hrun := run_append_nothing (P := P) (w := w) (ty := ty) hd hd' hi (p := p) (n := 0) (cap := 0) (by rw [hsz]; exact hcs) hcs0 (by simp)
    refine ⟨_, _, hrun, ?_, by simpa using Rep.slNil hm' hv' hnf⟩
    rw [putEls_nil]
    exact relM_readd h hb
  | sl hm' hv' hbk hc hfit hz =>
    rename_i cap loc g n
    have hcap := hroom0 _ _ _ rfl
    have hroom : len + ys.length ≤ cap := by omega
    rw [hm] at hm'; cases hm'
    obtain ⟨lv, lsz, l0, lb⟩ := l
    simp only at hlv hs hbk hv' hfit hz
    subst hlv hs hbk
    obtain ⟨hbg, hcell, _⟩ := hh
    obtain ⟨c, el, hw, hcsn, hn, h1, hr⟩ := hcell hz
    simp only at hn hr
    have e1 : (off + cap) * b.sz = off * b.sz + cap * b.sz := Nat.add_mul _ _ _
    have e2 : (len + ys.length) * b.sz ≤ cap * b.sz := Nat.mul_le_mul_right _ hroom
    rw [Nat.add_mul] at e2
    have e3 : cs.size = ys.length * b.sz := by rw [hcsz, hbs]
    have hrun := run_append_in (P := P) (w := w) (ty := ty) hd hd' hi (g := g) (o := l0 + off * b.sz) (n := len) (cap := cap) (by rw [hsz]; exact hcs) hroom hw (by rw [hsz, ← hbs]; omega) (one_of_getD hcs1)
    rw [hsz, ← hbs] at hrun
    have hfit2 : l0 + off * b.sz + len * b.sz + cs.size ≤ c.size := by omega
    have hg' := setRow_heap w g c (c.toList.take (l0 + off * b.sz + len * b.sz) ++ cs.toList ++ c.toList.drop (l0 + off * b.sz + len * b.sz + cs.size)).toArray el (0, 0) hw
    have hsize : (c.toList.take (l0 + off * b.sz + len * b.sz) ++ cs.toList ++ c.toList.drop (l0 + off * b.sz + len * b.sz + cs.size)).toArray.size = c.size := by
      have := splice_size c (l0 + off * b.sz + len * b.sz) cs.toList (by simpa using hfit2)
      simpa using this
    have hget := splice_get c (l0 + off * b.sz + len * b.sz) cs hfit2
    generalize hC : (c.toList.take (l0 + off * b.sz + len * b.sz) ++ cs.toList ++ c.toList.drop (l0 + off * b.sz + len * b.sz + cs.size)).toArray = C at hrun hg' hsize hget
    have hlen2 := putEls_length (els := b.els) (ys := ys) (o := off + len) (by omega)
    have hkeep : ∀ q, ¬ Yof B.X μ q → q < w.heap.size → ¬ Yof B.X μ q ∧ (w.setRow g C).heap[q]? = w.heap[q]? :=
      fun b' hy _ => ⟨hy, setRow_other w g b' _ (fun e => hy (.inr ⟨id, _, n, hm, by rw [e]⟩))⟩
    have hrb := RelM.rebox (w' := w.setRow g C) h id { b with els := putEls b.els (off + len) ys } ⟨b.ver, b.sz, l0, some (g, n)⟩ rfl rfl (later_same hm) (.inl hm) ⟨⟨rfl, Nat.le_refl _⟩, rfl, rfl⟩ (by simp)
      (fun g' _ hno => setRow_other w g g' _ (fun e => hno _ n hm (by rw [e]))) (fun g' n' hb' => .inl ⟨_, n', hm, hb'⟩) ?_
    · rw [upd_same hm] at hrb
      refine ⟨_, _, hrun, hrb, ?_⟩
      exact .sl (loc := ⟨b.ver, b.sz, l0, some (g, n)⟩) hm hv' rfl hroom hfit hz
    · rw [upd_same hm]
      have ea : (off + len) * b.sz = off * b.sz + len * b.sz := Nat.add_mul _ _ _
      unfold Holds
      refine ⟨by show (putEls b.els (off + len) ys).length ≤ big; rw [hlen2]; exact hbg, fun _ => ⟨C, el, hg', hsize.trans hcsn, by show l0 + (putEls b.els (off + len) ys).length * b.sz ≤ n; rw [hlen2]; exact hn, ?_, ?_⟩, fun h0 => absurd h0 hz⟩
      · intro j hj
        rw [hget j (by omega)]
        split
        · exact hcs1 _ (by omega)
        · exact h1 j hj
      · intro i hi
        dsimp only at hi ⊢
        rw [hlen2] at hi
        have hfi := mul_lt_of_fit hi (Nat.le_refl (b.els.length * b.sz))
        simp only [hvar, Bool.false_eq_true, if_false]
        rw [putEls_get (by omega) hi]
        by_cases hin : off + len ≤ i ∧ i < off + len + ys.length
        · rw [if_pos hin]
          have hk := hcr (i - (off + len)) (by omega)
          rw [← hbs] at hk
          refine ⟨hk.1, ?_⟩
          have hfk := mul_lt_of_fit (show i - (off + len) < ys.length by omega) (Nat.le_refl (ys.length * b.sz))
          have hea : i * b.sz = (off + len) * b.sz + (i - (off + len)) * b.sz := by rw [← Nat.add_mul]; congr 1; omega
          have := hk.2.mono hkeep (Mu.later.refl _)
          rw [elemVal_congr hk.1 (c' := C) (o' := l0 + i * b.sz) (by omega) (by omega) (fun j hj => ?_)] at this
          · exact this
          · rw [hget _ (by omega), if_pos (by omega)]
            congr 1
            omega
        · rw [if_neg hin]
          have hk := hr i hi
          rw [hvar] at hk
          simp only [Bool.false_eq_true, if_false] at hk
          refine ⟨hk.1, ?_⟩
          have hap : i * b.sz + b.sz ≤ (off + len) * b.sz ∨ (off + len) * b.sz + ys.length * b.sz ≤ i * b.sz := by
            by_cases hlt : i < off + len
            · exact .inl (mul_lt_of_fit hlt (Nat.le_refl _))
            · refine .inr ?_
              rw [← Nat.add_mul]
              exact Nat.mul_le_mul_right _ (by omega)
          have := hk.2.mono hkeep (Mu.later.refl _)
          rw [elemVal_congr hk.1 (c' := C) (o' := l0 + i * b.sz) (by omega) (by omega) (fun j hj => ?_)] at this
          · exact this
          · rw [hget _ (by omega), if_neg (by omega)]

/-- An append to a slice of a box. -/
theorem append_sl {P : Program} {T : TT} (hT : TOK P T) {t t' e e' ty : Nat} {ti ti' tie : TI} (ht : T t = some ti) (hk : ti.kind = .slice e) (ht' : T t' = some ti') (hk' : ti'.kind = .slice e') (hte : T e = some tie)
    {B : Base} {w : World} {a : Act} {s : St} {μ : Mu} (h : RelM B w a s μ) {id ver off len : Nat} {b : Box} (hb : find s.mem id = some b) (hver : b.ver = ver) {var : Bool} (hbv : b.var = true → var = true) (hbs : b.sz = tie.size)
    (hlen : off + len ≤ b.els.length) {v x : Value} (hv : Rep w (Yof B.X μ) μ (.sl id ver off len) v) {ys : List AV} (hx : Cellsed w (Yof B.X μ) (if var then μ else Mu.none) tie.size ys x) (hbig : len + ys.length ≤ 2 ^ 30) :
    ∃ v' w' μ', (Builtin.append_ #[t, t'] ty #[v, x]).run P w = .ok v' w' ∧ RelM B w' a ⟨s.env, (id, some ⟨tie.size, (b.els.drop off).take len ++ ys, nver s.mem id, var⟩) :: s.mem⟩ μ' ∧
      Rep w' (Yof B.X μ') μ' (.sl id (nver s.mem id) 0 (len + ys.length)) v' := by
  have hcl := (sl_cellsed h hb hver hlen hv).up hbv
  have hl : ((b.els.drop off).take len).length = len := by simp; omega
  obtain ⟨l, hm, hlv, hs, hh⟩ := h.inv.box id b hb
  obtain ⟨dd, hd, hkd⟩ := (hT t ti ht).desc
  rw [hk] at hkd
  simp only [TK.desc] at hkd
  subst hkd
  obtain ⟨dd, hd', hkd⟩ := (hT t' ti' ht').desc
  rw [hk'] at hkd
  simp only [TK.desc] at hkd
  subst hkd
  obtain ⟨i, z, hi, hsz, hby, hz, hzc, hz1, _⟩ := (hT e tie hte).info
  have hout : ∀ p cap, v = .slice p len cap → cap < len + ys.length → ∃ v' w' μ', (Builtin.append_ #[t, t'] ty #[v, x]).run P w = .ok v' w' ∧
      RelM B w' a ⟨s.env, (id, some ⟨tie.size, (b.els.drop off).take len ++ ys, nver s.mem id, var⟩) :: s.mem⟩ μ' ∧ Rep w' (Yof B.X μ') μ' (.sl id (nver s.mem id) 0 (len + ys.length)) v' := by
    intro p cap hvv hcap
    rw [hbs, hvv] at hcl
    have := append_out hT ht hk ht' hk' hte (ty := ty) h id var (xs := (b.els.drop off).take len) (by rw [hl]; exact hcl) hx (by rw [hl]; exact hcap) (by rw [hl]; exact hbig)
    rw [hl] at this
    rw [hvv]
    exact this
  obtain ⟨cs, hcs, hcsz, hcs1, ⟨q, qc, rfl⟩, hcr⟩ := hx.first (P := P)
  cases hv with
  | slOld hm' hv' => rw [hm] at hm'; cases hm'; omega
  | slNil hm' hv' hnf =>
    rename_i loc p
    rw [hm] at hm'; cases hm'
    by_cases hy : 0 < ys.length
    · exact hout _ _ rfl (by omega)
    · have hy0 : ys = [] := List.eq_nil_of_length_eq_zero (by omega)
      subst hy0
      have hcs0 : cs = #[] := Array.eq_empty_of_size_eq_zero (by simpa using hcsz)
      have hrun := run_append_nothing (P := P) (w := w) (ty := ty) hd hd' hi (p := p) (n := 0) (cap := 0) (by rw [hsz]; exact hcs) hcs0 (by simp)
      have hnb := nil_box h id tie.size var
      refine ⟨_, _, _, hrun, by simpa using hnb, ?_⟩
      have := Rep.slNil (w := w) (Y := Yof B.X (μ.upd id ⟨nver s.mem id, tie.size, 0, none⟩)) (μ := μ.upd id ⟨nver s.mem id, tie.size, 0, none⟩) (id := id) (ver := nver s.mem id) (off := 0) (p := p)
        (loc := ⟨nver s.mem id, tie.size, 0, none⟩) (by simp [Mu.upd]) rfl (fun _ _ e => by cases e)
      simpa using this
  | sl hm' hv' hbk hc hfit hz =>
    rename_i cap loc g n
    rw [hm] at hm'; cases hm'
    by_cases hroom : len + ys.length ≤ cap
    · obtain ⟨lv, lsz, l0, lb⟩ := l
      simp only at hlv hs hbk hv' hfit hz
      subst hlv hs hbk
      obtain ⟨hbg, hcell, _⟩ := hh
      obtain ⟨c, el, hw, hcsn, hn, h1, hr⟩ := hcell hz
      simp only at hn hr
      have e1 : (off + cap) * b.sz = off * b.sz + cap * b.sz := Nat.add_mul _ _ _
      have e2 : (len + ys.length) * b.sz ≤ cap * b.sz := Nat.mul_le_mul_right _ hroom
      rw [Nat.add_mul] at e2
      have e3 : cs.size = ys.length * b.sz := by rw [hcsz, hbs]
      have e4 : (off + len) * b.sz = off * b.sz + len * b.sz := Nat.add_mul _ _ _
      have e5 : (off + len) * b.sz ≤ b.els.length * b.sz := Nat.mul_le_mul_right _ hlen
      have hrun := run_append_in (P := P) (w := w) (ty := ty) hd hd' hi (g := g) (o := l0 + off * b.sz) (n := len) (cap := cap) (by rw [hsz]; exact hcs) hroom hw (by rw [hsz, ← hbs]; omega) (one_of_getD hcs1)
      rw [hsz, ← hbs] at hrun
      have hfit2 : l0 + off * b.sz + len * b.sz + cs.size ≤ c.size := by omega
      have hg' := setRow_heap w g c (c.toList.take (l0 + off * b.sz + len * b.sz) ++ cs.toList ++ c.toList.drop (l0 + off * b.sz + len * b.sz + cs.size)).toArray el (0, 0) hw
      have hsize : (c.toList.take (l0 + off * b.sz + len * b.sz) ++ cs.toList ++ c.toList.drop (l0 + off * b.sz + len * b.sz + cs.size)).toArray.size = c.size := by
        have := splice_size c (l0 + off * b.sz + len * b.sz) cs.toList (by simpa using hfit2)
        simpa using this
      have hget := splice_get c (l0 + off * b.sz + len * b.sz) cs hfit2
      generalize hC : (c.toList.take (l0 + off * b.sz + len * b.sz) ++ cs.toList ++ c.toList.drop (l0 + off * b.sz + len * b.sz + cs.size)).toArray = C at hrun hg' hsize hget
      have hnver : nver s.mem id = b.ver + 1 := by simp [nver, hb]
      have hnewblk : ∀ g' n', (⟨nver s.mem id, b.sz, l0 + off * b.sz, some (g, n)⟩ : Loc).blk = some (g', n') → (∃ l1 n0, μ id = some l1 ∧ l1.blk = some (g', n0)) ∨ w.heap.size ≤ g' := by
        intro g' n' e
        simp only [Option.some.injEq, Prod.mk.injEq] at e
        exact .inl ⟨_, n, hm, by simp [e.1]⟩
      have hkeep : ∀ q, ¬ Yof B.X μ q → q < w.heap.size → ¬ Yof B.X (μ.upd id ⟨nver s.mem id, b.sz, l0 + off * b.sz, some (g, n)⟩) q ∧ (w.setRow g C).heap[q]? = w.heap[q]? := by
        intro q hy hq
        refine ⟨fun hy' => ?_, setRow_other w g q _ (fun e => hy (.inr ⟨id, _, n, hm, by rw [e]⟩))⟩
        rcases hy' with hx | hb'
        · exact hy (.inl hx)
        · rcases blks_upd hb' with ⟨n', hl'⟩ | ⟨i', l', n', _, hm', hb''⟩
          · simp only [Option.some.injEq, Prod.mk.injEq] at hl'
            exact hy (.inr ⟨id, _, n, hm, by simp [hl'.1]⟩)
          · exact hy (.inr ⟨i', l', n', hm', hb''⟩)
      have hrb := RelM.rebox (w' := w.setRow g C) h id ⟨tie.size, (b.els.drop off).take len ++ ys, nver s.mem id, var⟩ ⟨nver s.mem id, b.sz, l0 + off * b.sz, some (g, n)⟩ rfl hbs
        (later_upd h.inv id _ (Nat.le_refl _)) (.inr (zero_upd h.inv id ⟨nver s.mem id, b.sz, l0 + off * b.sz, some (g, n)⟩ (Nat.le_refl _))) ⟨⟨rfl, Nat.le_refl _⟩, rfl, rfl⟩ (by simp) (fun g' _ hno => setRow_other w g g' _ (fun e => hno _ n hm (by rw [e]))) hnewblk ?_
      · refine ⟨_, _, _, hrun, hrb, ?_⟩
        have := Rep.sl (w := w.setRow g C) (Y := Yof B.X (μ.upd id ⟨nver s.mem id, b.sz, l0 + off * b.sz, some (g, n)⟩)) (μ := μ.upd id ⟨nver s.mem id, b.sz, l0 + off * b.sz, some (g, n)⟩)
          (id := id) (ver := nver s.mem id) (off := 0) (len := len + ys.length) (cap := cap) (loc := ⟨nver s.mem id, b.sz, l0 + off * b.sz, some (g, n)⟩) (by simp [Mu.upd]) rfl rfl hroom (by simp; omega) hz
        simpa using this
      · refine ⟨by simp only [List.length_append, hl, big]; omega, fun _ => ⟨C, el, hg', hsize.trans hcsn, by simp only [List.length_append, hl, ← hbs, Nat.add_mul]; omega, ?_, ?_⟩, fun h0 => absurd (hbs.trans h0) hz⟩
        · intro j hj
          rw [hget j (by omega)]
          split
          · rename_i hin
            have := hcs1 (j - (l0 + off * b.sz + len * b.sz)) (by omega)
            exact this
          · exact h1 j hj
        · intro k hki
          simp only [List.length_append, hl] at hki
          simp only [← hbs]
          by_cases hlt : k < len
          · have hgk : ((b.els.drop off).take len ++ ys).getD k .junk = b.els.getD (off + k) .junk := by
              simp only [List.getD_eq_getElem?_getD]
              rw [List.getElem?_append_left (by rw [hl]; exact hlt), List.getElem?_take, if_pos hlt, List.getElem?_drop]
            rw [hgk]
            have hrk := hr (off + k) (by omega)
            refine ⟨hrk.1, ?_⟩
            have hfi := mul_lt_of_fit hlt (Nat.le_refl (len * b.sz))
            have hea : (off + k) * b.sz = off * b.sz + k * b.sz := Nat.add_mul _ _ _
            have := hrk.2.upv hbv hkeep (later_upd h.inv id ⟨nver s.mem id, b.sz, l0 + off * b.sz, some (g, n)⟩ (Nat.le_refl _))
            rw [elemVal_congr hrk.1 (c' := C) (o' := l0 + off * b.sz + k * b.sz) (by omega) (by omega) (fun j hj => ?_)] at this
            · exact this
            · rw [hget _ (by omega), if_neg (by omega)]
              congr 1
              omega
          · have hgk : ((b.els.drop off).take len ++ ys).getD k .junk = ys.getD (k - len) .junk := by
              simp [List.getD_eq_getElem?_getD, List.getElem?_append, hl, hlt]
            rw [hgk]
            have hck := hcr (k - len) (by omega)
            rw [← hbs] at hck
            refine ⟨hck.1, ?_⟩
            have hfi := mul_lt_of_fit (show k - len < ys.length by omega) (Nat.le_refl (ys.length * b.sz))
            have hea : k * b.sz = len * b.sz + (k - len) * b.sz := by rw [← Nat.add_mul]; congr 1; omega
            have := hck.2.upv (fun h => h) hkeep (later_upd h.inv id ⟨nver s.mem id, b.sz, l0 + off * b.sz, some (g, n)⟩ (Nat.le_refl _))
            rw [elemVal_congr hck.1 (c' := C) (o' := l0 + off * b.sz + k * b.sz) (by omega) (by omega) (fun j hj => ?_)] at this
            · exact this
            · rw [hget _ (by omega), if_pos (by omega)]
              congr 1
              omega
    · exact hout _ _ rfl (by omega)

end Go.Abs
end

section
/- The value layer, part 7: what the operations give. -/
namespace Go.Abs

structure Out where
  pre : Prop
  val : AV
  up : List (Nat × Option Box)

def bad : Out := ⟨False, .junk, []⟩
def puts (p : Prop) (v : AV) : Out := ⟨p, v, []⟩

/-- An operation's run is as told. -/
def Good (B : Base) (w : World) (a : Act) (s : St) (run : Result Next) (o : Out) : Prop :=
  ∃ w' v μ', (run = .ok (.value v) w' ∨ (run = .ok .skip w' ∧ v = undef)) ∧ RelM B w' a ⟨s.env, o.up ++ s.mem⟩ μ' ∧ Rep w' (Yof B.X μ') μ' o.val v

theorem Good.same {B : Base} {w : World} {a : Act} {s : St} {μ : Mu} (h : RelM B w a s μ) {v : Value} {x : AV} {p : Prop} (hx : Rep w (Yof B.X μ) μ x v) :
    Good B w a s (.ok (.value v) w) (puts p x) := ⟨w, v, μ, .inl rfl, h, hx⟩

/-! ### the sizes of a table -/
def tsize (T : TT) (t : Nat) : Nat := match T t with | some ti => ti.size | none => 0
def tkind (T : TT) (t : Nat) : TK := match T t with | some ti => ti.kind | none => .flat
def tzero (T : TT) (t : Nat) : AV := match T t with | some ti => ti.zero | none => .junk
def tknown (T : TT) (t : Nat) : Prop := (T t).isSome = true
def telem : TK → Nat
  | .slice e => e
  | .array _ e => e
  | _ => 0
/-- the cells of an element of a slice type -/
def esz (T : TT) (t : Nat) : Nat := tsize T (telem (tkind T t))

/-- The nil slice of a type is an empty one. -/
def nrm (T : TT) (t : Nat) : AV → AV
  | .raw (.slice none 0 0) => .seq (esz T t) [] true
  | a => a

theorem rep_nrm {T : TT} {t : Nat} {w : World} {Y : Nat → Prop} {μ : Mu} {x : AV} {v : Value} (h : Rep w Y μ x v) : Rep w Y μ (nrm T t x) v := by
  unfold nrm
  split
  · obtain ⟨rfl, _⟩ := h.one
    exact .nil
  · exact h

/-! ### move and assign -/
def moveE (T : TT) (m : List (Nat × Option Box)) (d : Nat) (ty : Nat) : AV → Out
  | .raw (.slice none 0 0) => ⟨True, .sl d (nver m d) 0 0, [(d, some ⟨esz T ty, [], nver m d, false⟩)]⟩
  | a => puts True a

theorem moveE_good {T : TT} {B : Base} {w : World} {a : Act} {s : St} {μ : Mu} (h : RelM B w a s μ) {d ty : Nat} {x : AV} {v : Value} (hx : Rep w (Yof B.X μ) μ x v) :
    Good B w a s (.ok (.value v) w) (moveE T s.mem d ty x) := by
  unfold moveE
  split
  · obtain ⟨rfl, _⟩ := hx.one
    exact ⟨w, _, _, .inl rfl, nil_box h d (esz T ty) false, .slNil (loc := ⟨nver s.mem d, esz T ty, 0, none⟩) (by simp [Mu.upd]) rfl (fun _ _ e => by cases e)⟩
  · exact Good.same h hx

/-! ### pick -/
def pickE (c a b : AV) : Out :=
  match c, a, b with
  | .raw (.bool g), .raw (.bool x), .raw (.bool y) => puts True (.raw (.bool (bif g then x else y)))
  | .raw (.bool g), .maybe p (.raw (.bool x)), .raw (.bool y) => puts (g = true → p = true) (.raw (.bool (bif g then x else y)))
  | .raw (.bool g), .raw (.bool x), .maybe q (.raw (.bool y)) => puts (g = false → q = true) (.raw (.bool (bif g then x else y)))
  | .raw (.bool g), .raw (.bool x), _ => puts (g = true) (.raw (.bool x))
  | .raw (.bool g), _, .raw (.bool y) => puts (g = false) (.raw (.bool y))
  | _, _, _ => bad

/-- What a condition of a guard says: whether it is known, and its value. -/
theorem Rep.boolOf {w : World} {Y : Nat → Prop} {μ : Mu} {g : Bool} {v : Value} (h : Rep w Y μ (.raw (.bool g)) v) : v = .bool g := h.one.1
theorem Rep.maybeOf {w : World} {Y : Nat → Prop} {μ : Mu} {g : Bool} {a : AV} {v : Value} (h : Rep w Y μ (.maybe g a) v) (hg : g = true) : Rep w Y μ a v := by
  cases h with
  | maybe h0 h => exact h hg

theorem pickE_good {P : Program} {B : Base} {w : World} {a : Act} {s : St} {μ : Mu} (h : RelM B w a s μ) {c x y : AV} {cv xv yv : Value} (hc : Rep w (Yof B.X μ) μ c cv)
    (hx : Rep w (Yof B.X μ) μ x xv) (hy : Rep w (Yof B.X μ) μ y yv) (hp : (pickE c x y).pre) :
    Good B w a s ((do pure (.value (if ← asBool cv then xv else yv)) : Sem Next).run P w) (pickE c x y) := by
  unfold pickE at *
  split at hp
  · cases hc.boolOf; cases hx.boolOf; cases hy.boolOf
    rename_i g x y
    refine ⟨w, .bool (bif g then x else y), μ, .inl ?_, h, .raw rfl⟩
    cases g <;> simp [asBool]
  · cases hc.boolOf; cases hy.boolOf
    rename_i g p x y
    refine ⟨w, .bool (bif g then x else y), μ, .inl ?_, h, .raw rfl⟩
    cases g
    · simp [asBool]
    · cases (hx.maybeOf (hp rfl)).boolOf; simp [asBool]
  · cases hc.boolOf; cases hx.boolOf
    rename_i g x q y
    refine ⟨w, .bool (bif g then x else y), μ, .inl ?_, h, .raw rfl⟩
    cases g
    · cases (hy.maybeOf (hp rfl)).boolOf; simp [asBool]
    · simp [asBool]
  · cases hc.boolOf; cases hx.boolOf
    rename_i g x _ _
    have hg : g = true := hp
    subst hg
    exact ⟨w, .bool x, μ, .inl (by simp [asBool]), h, .raw rfl⟩
  · cases hc.boolOf; cases hy.boolOf
    rename_i g y _ _
    have hg : g = false := hp
    subst hg
    exact ⟨w, .bool y, μ, .inl (by simp [asBool]), h, .raw rfl⟩
  · exact hp.elim

end Go.Abs
end

section
/- The value layer, part 8: operations on memory. -/
namespace Go.Abs

section
variable {P : Program} {T : TT} (hT : TOK P T) {B : Base} {w : World} {a : Act} {s : St} {μ : Mu} (h : RelM B w a s μ)

theorem tknown_some {T : TT} {t : Nat} (h : tknown T t) : ∃ ti, T t = some ti ∧ tsize T t = ti.size ∧ tkind T t = ti.kind ∧ tzero T t = ti.zero := by
  unfold tknown at h
  cases e : T t with
  | none => rw [e] at h; cases h
  | some ti => exact ⟨ti, rfl, by simp [tsize, e], by simp [tkind, e], by simp [tzero, e]⟩

/-- The element with a number. -/
def nth (l : List AV) (i : Nat) : AV := l.getD i .junk

/-! ### a variable's box -/
def boxE (T : TT) (m : List (Nat × Option Box)) (d : Nat) (t : Nat) (x : AV) : Out :=
  ⟨tknown T t ∧ (nrm T t x).width = tsize T t ∧ AV.solid m (nrm T t x), .pt d (nver m d) 0 0, [(d, some ⟨tsize T t, [nrm T t x], nver m d, true⟩)]⟩

include hT h in
theorem new_var {d t : Nat} {ti : TI} (ht : T t = some ti) {x : AV} {v : Value} (hx : Rep w (Yof B.X μ) μ x v) (hw : x.width = ti.size) (hs : AV.solid s.mem x) :
    ∃ p μ', (Sem.run P (newVar t v) w) = .ok p (w.alloc (.cells v.cells t)) ∧ RelM B (w.alloc (.cells v.cells t)) a ⟨s.env, (d, some ⟨ti.size, [x], nver s.mem d, true⟩) :: s.mem⟩ μ' ∧
      Rep (w.alloc (.cells v.cells t)) (Yof B.X μ') μ' (.pt d (nver s.mem d) 0 0) (.pointer (some p)) := by
  have hk := hT t ti ht
  obtain ⟨hvc, hvr⟩ := hx.cells (hx.solid h.inv hs)
  have hnb := new_box h d ti.size [x] true v.cells t (by have := hk.pos; omega) (by simp [big]) (by simp [hvc, hw]) (fun j hj => (hvr j (by omega)).1) (fun i hi => by
    have : i = 0 := by simpa using hi
    subst this
    refine ⟨hw, ?_⟩
    have := rep_elem (w := w) (Y := Yof B.X μ) (μ := μ) (e := x) (c := v.cells) (o0 := 0) (by omega) (fun j _ hj => (hvr j (by omega)).1) (fun j hj => by simpa using (hvr j hj).2)
    simpa [hw] using this)
  refine ⟨⟨w.heap.size, 0, none⟩, _, by simp [newVar, newRow], hnb, ?_⟩
  have := Rep.pt (w := w.alloc (.cells v.cells t)) (Y := Yof B.X (μ.upd d ⟨nver s.mem d, ti.size, 0, some (w.heap.size, v.cells.size)⟩)) (μ := μ.upd d ⟨nver s.mem d, ti.size, 0, some (w.heap.size, v.cells.size)⟩)
    (id := d) (ver := nver s.mem d) (idx := 0) (sub := 0) (loc := ⟨nver s.mem d, ti.size, 0, some (w.heap.size, v.cells.size)⟩) (by simp [Mu.upd]) rfl rfl (by show ti.size ≠ 0; have := hk.pos; omega)
  simpa using this

include hT h in
theorem boxE_good {d t : Nat} {x : AV} {v : Value} (hx : Rep w (Yof B.X μ) μ x v) (hp : (boxE T s.mem d t x).pre) :
    Good B w a s ((do pure (.value (← Instr.box t v)) : Sem Next).run P w) (boxE T s.mem d t x) := by
  obtain ⟨hkn, hw, hs⟩ := hp
  obtain ⟨ti, ht, hz, _⟩ := tknown_some hkn
  rw [hz] at hw
  obtain ⟨p, μ', hr, hrel, hrep⟩ := new_var hT h (d := d) ht (rep_nrm (T := T) (t := t) hx) hw hs
  refine ⟨_, _, μ', .inl ?_, by simpa [boxE, hz] using hrel, hrep⟩
  simp [Instr.box, hr]

theorem solid_nil {m : List (Nat × Option Box)} {x : AV} (h : AV.solid [] x) : AV.solid m x := by
  cases x <;> simp only [AV.solid, find] at h ⊢ <;> (obtain ⟨b, hb, _⟩ := h; cases hb)

def allocE (T : TT) (m : List (Nat × Option Box)) (d : Nat) (t : Nat) : Out :=
  ⟨tknown T t ∧ AV.solid [] (tzero T t), .pt d (nver m d) 0 0, [(d, some ⟨tsize T t, [tzero T t], nver m d, true⟩)]⟩

include hT h in
theorem allocE_good {d t : Nat} (hp : (allocE T s.mem d t).pre) :
    Good B w a s ((do pure (.value (← Instr.alloc t true (.tuple #[]))) : Sem Next).run P w) (allocE T s.mem d t) := by
  obtain ⟨hkn, hs⟩ := hp
  obtain ⟨ti, ht, hz, _, hzz⟩ := tknown_some hkn
  have hk := hT t ti ht
  obtain ⟨z, hzr, hzc, hz1, hzrep⟩ := hk.run_zero w
  rw [hzz] at hs
  obtain ⟨p, μ', hr, hrel, hrep⟩ := new_var hT h (d := d) ht (hzrep w (Yof B.X μ) μ) hk.width (solid_nil hs)
  refine ⟨_, _, μ', .inl ?_, by simpa [allocE, hz, hzz] using hrel, hrep⟩
  simp [Instr.alloc, hzr, hr]

/-! ### loads, stores, addresses -/
def loadE (T : TT) (m : List (Nat × Option Box)) (t : Nat) (x : AV) : Out :=
  match x with
  | .pt id ver idx o => match find m id with
    | some b => puts (tknown T t ∧ b.ver = ver ∧ idx < b.els.length ∧ o + tsize T t ≤ (nth b.els idx).width) (sub (nth b.els idx) (tkind T t).agg o (tsize T t))
    | none => bad
  | .ipt e o => puts (tknown T t ∧ o + tsize T t ≤ e.width) (nrm T t (sub e (tkind T t).agg o (tsize T t)))
  | _ => bad

include hT h in
theorem loadE_run {t : Nat} {x : AV} {v : Value} (hx : Rep w (Yof B.X μ) μ x v) (hp : (loadE T s.mem t x).pre) :
    ∃ p u, v = .pointer (some p) ∧ (Instr.loadAt t v).run P w = .ok u w ∧ Rep w (Yof B.X μ) μ (loadE T s.mem t x).val u := by
  unfold loadE at *
  split at hp
  · rename_i id ver idx o
    split at hp
    · rename_i b hb
      obtain ⟨hkn, hver, hidx, ho⟩ := hp
      obtain ⟨ti, ht, hz, hkk, _⟩ := tknown_some hkn
      obtain ⟨l, hm, hv, hs, hh⟩ := h.inv.box id b hb
      cases hx with
      | ptOld hm' hv' => rw [hm] at hm'; cases hm'; omega
      | pt hm' hv' hbk hz0 =>
        rename_i loc g n
        rw [hm] at hm'; cases hm'
        obtain ⟨lv, lsz, l0, lb⟩ := l
        simp only at hv hs hbk hv' hz0
        subst hv hs hbk
        obtain ⟨hbig, hcell, _⟩ := hh
        obtain ⟨c, el, hw, hcs, hn, h1, hr⟩ := hcell hz0
        simp only at hn hr
        have hri := hr idx hidx
        have hfi := mul_lt_of_fit hidx (Nat.le_refl (b.els.length * b.sz))
        have hrep : Rep w (Yof B.X μ) μ (b.els.getD idx .junk) (elemVal (b.els.getD idx .junk) (b.els.getD idx .junk).width c (l0 + idx * b.sz)) := by
          rw [hri.1]
          have := hri.2
          cases hvar : b.var with
          | true => rw [hvar] at this; exact this
          | false => rw [hvar] at this; exact this.mono (fun b hy _ => ⟨hy, rfl⟩) (Mu.none_later _)
        rw [hz] at ho
        obtain ⟨u, hrun, hru⟩ := run_load_sub hT ht hw hrep (by rw [hri.1]; omega) (fun j _ hj => h1 j (by rw [hri.1] at hj; omega)) ho
        try simp only [hb]
        exact ⟨_, u, rfl, hrun, by rw [hz, hkk]; exact hru⟩
    · exact hp.elim
  · rename_i e o
    obtain ⟨hkn, ho⟩ := hp
    obtain ⟨ti, ht, hz, hkk, _⟩ := tknown_some hkn
    cases hx with
    | ipt hY hb hfit h1 hr =>
      rename_i b off c el fr
      rw [hz] at ho
      obtain ⟨u, hrun, hru⟩ := run_load_sub hT ht hb (hr.mono (fun b hy _ => ⟨hy, rfl⟩) (Mu.none_later μ)) hfit h1 ho
      exact ⟨_, u, rfl, hrun, rep_nrm (by rw [hz, hkk]; exact hru)⟩
  · exact hp.elim

include hT h in
theorem loadE_good {t : Nat} {x : AV} {v : Value} (hx : Rep w (Yof B.X μ) μ x v) (hp : (loadE T s.mem t x).pre) :
    Good B w a s ((do pure (.value (← Instr.loadAt t v)) : Sem Next).run P w) (loadE T s.mem t x) := by
  obtain ⟨p, u, _, hrun, hrep⟩ := loadE_run hT h hx hp
  have hup : (loadE T s.mem t x).up = [] := by
    unfold loadE
    split
    · split <;> rfl
    · rfl
    · rfl
  refine ⟨w, u, μ, .inl (by simp [hrun]), ?_, hrep⟩
  rw [hup]
  exact h

def storeE (T : TT) (m : List (Nat × Option Box)) (t : Nat) (x v : AV) : Out :=
  match x with
  | .pt id ver idx o => match find m id with
    | some b => ⟨tknown T t ∧ b.ver = ver ∧ idx < b.els.length ∧ AV.solid m (nrm T t v) ∧ (nrm T t v).width = tsize T t ∧ o + tsize T t ≤ (nth b.els idx).width ∧ (b.var = false → (nrm T t v).refs = []), .junk,
        [(id, some { b with els := b.els.set idx (setSub (nth b.els idx) o (nrm T t v)) })]⟩
    | none => bad
  | _ => bad

include hT h in
theorem storeE_good {t : Nat} {x y : AV} {v u : Value} (hx : Rep w (Yof B.X μ) μ x v) (hy : Rep w (Yof B.X μ) μ y u) (hp : (storeE T s.mem t x y).pre) :
    Good B w a s ((do Instr.storeAt t v u; pure .skip : Sem Next).run P w) (storeE T s.mem t x y) := by
  unfold storeE at *
  split at hp
  · rename_i id ver idx o
    split at hp
    · rename_i b hb
      obtain ⟨hkn, hver, hidx, hsol, hwd, ho, hst⟩ := hp
      obtain ⟨ti, ht, hz, hkk, _⟩ := tknown_some hkn
      obtain ⟨w', hrun, hrel⟩ := store_box hT ht h hb hver hidx hx (rep_nrm (T := T) (t := t) hy) hsol hst (by rw [hwd, hz]) (by rw [hwd]; exact ho)
      try simp only [hb]
      exact ⟨w', undef, μ, .inr ⟨by simp [hrun], rfl⟩, hrel, .junk⟩
    · exact hp.elim
  · exact hp.elim

/-- Where a field lies. -/
def fieldE (T : TT) (m : List (Nat × Option Box)) (t : Nat) (x : AV) (k : Nat) : Out :=
  match tkind T t with
  | .struct fs => match fs[k]? with
    | some (off, size, _) => match x with
      | .pt id ver idx o => match find m id with
        | some b => puts (tknown T t ∧ 0 < size ∧ b.ver = ver) (.pt id ver idx (o + off))
        | none => bad
      | .ipt e o => puts (tknown T t ∧ 0 < size) (.ipt e (o + off))
      | _ => bad
    | none => bad
  | _ => bad

theorem mapM_get {α β : Type} {f : α → Option β} : ∀ {l : List α} {r : List β}, l.mapM f = some r → ∀ {k : Nat} {y : β}, r[k]? = some y → ∃ x, l[k]? = some x ∧ f x = some y
  | [], r, h, k, y, hy => by simp at h; subst h; simp at hy
  | x :: l, r, h, k, y, hy => by
    simp only [List.mapM_cons, Option.bind_eq_bind, Option.pure_def] at h
    cases hx : f x with
    | none => simp [hx] at h
    | some z =>
      cases hl : l.mapM f with
      | none => simp [hx, hl] at h
      | some zs =>
        simp [hx, hl] at h
        subst h
        cases k with
        | zero => simp at hy; subst hy; exact ⟨x, rfl, hx⟩
        | succ k => simp at hy; simpa using mapM_get hl hy

include hT in
theorem run_fieldAt {t k off size ft : Nat} {fs : List (Nat × Nat × Nat)} (hkn : tknown T t) (hk : tkind T t = .struct fs) (hf : fs[k]? = some (off, size, ft)) (hs : 0 < size) (b o : Nat) (w : World) :
    (Instr.fieldAt t (.pointer (some ⟨b, o, none⟩)) k).run P w = .ok (.pointer (some ⟨b, o + off, none⟩)) w := by
  obtain ⟨ti, ht, _, hkk, _⟩ := tknown_some hkn
  obtain ⟨d, hd, hdesc⟩ := (hT t ti ht).desc
  rw [hkk] at hk
  rw [hk] at hdesc
  obtain ⟨fields, rfl, hm⟩ := hdesc
  obtain ⟨f, hf1, hf2⟩ := mapM_get hm hf
  cases hi : P.info? f.type with
  | none => simp [hi] at hf2
  | some i =>
    simp only [hi, Option.map_some, Option.some.injEq, Prod.mk.injEq] at hf2
    obtain ⟨rfl, rfl, rfl⟩ := hf2
    have hf3 : fields[k]? = some f := by simpa using hf1
    have hne : ¬ i.size = 0 := by omega
    simp [Instr.fieldAt, run_underlying hd, hf3, Instr.sureAddr, fieldPlace, sizeOf, typeInfo, hi, hne, addr_add]

include hT h in
theorem fieldE_good {t k : Nat} {x : AV} {v : Value} (hx : Rep w (Yof B.X μ) μ x v) (hp : (fieldE T s.mem t x k).pre) :
    Good B w a s ((do pure (.value (← Instr.fieldAt t v k)) : Sem Next).run P w) (fieldE T s.mem t x k) := by
  unfold fieldE at *
  split at hp
  · rename_i fs hk
    split at hp
    · rename_i off size ft hf
      split at hp
      · rename_i id ver idx o
        split at hp
        · rename_i b hb
          obtain ⟨hkn, hs, hver⟩ := hp
          obtain ⟨l, hm, hv, _⟩ := h.inv.box id b hb
          cases hx with
          | ptOld hm' hv' => rw [hm] at hm'; cases hm'; omega
          | pt hm' hv' hbk hz0 =>
            rename_i loc g n
            try simp only [hf, hb]
            refine ⟨w, .pointer (some ⟨g, loc.base + idx * loc.sz + (o + off), none⟩), μ, .inl ?_, h, .pt hm' hv' hbk hz0⟩
            simp [run_fieldAt hT hkn hk hf hs, Nat.add_assoc]
        · exact hp.elim
      · rename_i e o
        obtain ⟨hkn, hs⟩ := hp
        cases hx with
        | ipt hY hb hfit h1 hr =>
          rename_i b o0 c el fr
          try simp only [hf]
          refine ⟨w, .pointer (some ⟨b, o0 + (o + off), none⟩), μ, .inl ?_, h, .ipt hY hb hfit h1 hr⟩
          simp [run_fieldAt hT hkn hk hf hs, Nat.add_assoc]
      · exact hp.elim
    · exact hp.elim
  · exact hp.elim

/-- A pointer that is none to nothing, or a function. -/
def nilE (m : List (Nat × Option Box)) (x : AV) : Out :=
  match x with
  | .pt id ver idx o => match find m id with
    | some b => puts (b.ver = ver) (.pt id ver idx o)
    | none => bad
  | .ipt e o => puts True (.ipt e o)
  | .fn f p c => puts True (.fn f p c)
  | _ => bad

include h in
theorem nilE_good {o : Oper} {y : Operand} (ho : o.op = .nilCheck y) {ρ : Operand → Value} {x : AV} (hx : Rep w (Yof B.X μ) μ x (ρ y)) (hp : (nilE s.mem x).pre) :
    Good B w a s ((execOp ρ o).run P w) (nilE s.mem x) := by
  unfold nilE at *
  generalize hv : ρ y = v at hx
  split at hp
  · rename_i id ver idx o'
    split at hp
    · rename_i b hb
      obtain ⟨l, hm, hlv, _⟩ := h.inv.box id b hb
      have hx' := hx
      cases hx with
      | ptOld hm' hv' => rw [hm] at hm'; cases hm'; have : b.ver = ver := hp; omega
      | pt hm' hv' hbk hz0 =>
        try simp only [hb]
        exact ⟨w, _, μ, .inl (by simp [execOp, ho, hv]), h, hx'⟩
    · exact hp.elim
  · have hx' := hx
    cases hx with
    | ipt hY hb hfit h1 hr => exact ⟨w, _, μ, .inl (by simp [execOp, ho, hv]), h, hx'⟩
  · have hx' := hx
    cases hx with
    | fn hs ht hf hk => exact ⟨w, _, μ, .inl (by simp [execOp, ho, hv]), h, hx'⟩
  · exact hp.elim
end

end Go.Abs
end

section
/- The value layer, part 9: indexes, slices, lengths, arithmetic. -/
namespace Go.Abs

section
variable {P : Program} {T : TT} (hT : TOK P T) {B : Base} {w : World} {a : Act} {s : St} {μ : Mu} (h : RelM B w a s μ)

/-! ### indexes -/
def indexE (T : TT) (m : List (Nat × Option Box)) (t : Nat) (x ix : AV) : Out :=
  match ix with
  | .raw (.int _ i) => match tkind T t with
    | .slice e => match x with
      | .seq sz l _ => puts (tknown T t ∧ tknown T e ∧ sz = tsize T e ∧ 0 ≤ i ∧ i < l.length) (.ipt (nth l i.toNat) 0)
      | .sl id ver off len => match find m id with
        | some b => puts (tknown T t ∧ tknown T e ∧ b.sz = tsize T e ∧ b.ver = ver ∧ 0 ≤ i ∧ i < len) (.pt id ver (off + i.toNat) 0)
        | none => bad
      | _ => bad
    | .array n e => match x with
      | .pt id ver idx o => match find m id with
        | some b => puts (tknown T t ∧ tknown T e ∧ b.ver = ver ∧ 0 ≤ i ∧ i < n) (.pt id ver idx (o + i.toNat * tsize T e))
        | none => bad
      | .ipt el o => puts (tknown T t ∧ tknown T e ∧ 0 ≤ i ∧ i < n) (.ipt el (o + i.toNat * tsize T e))
      | _ => bad
    | _ => bad
  | _ => bad

include hT in
theorem run_indexAt_slice {t e : Nat} (hkn : tknown T t) (hk : tkind T t = .slice e) (hke : tknown T e) {k : IntKind} {i : Int} {b o n cap : Nat} (h0 : 0 ≤ i) (h1 : i < n) (w : World) :
    (Instr.indexAt t (.slice (some ⟨b, o, none⟩) n cap) (.int k i)).run P w = .ok (.pointer (some ⟨b, o + i.toNat * tsize T e, none⟩)) w := by
  obtain ⟨ti, ht, _, hkk, _⟩ := tknown_some hkn
  obtain ⟨te, hte, hze, _, _⟩ := tknown_some hke
  obtain ⟨d, hd, hdesc⟩ := (hT t ti ht).desc
  rw [hkk] at hk
  rw [hk] at hdesc
  simp only [TK.desc] at hdesc
  subst hdesc
  simp [Instr.indexAt, asIntOf, run_underlying hd, h0, h1, (hT e te hte).run_size, addr_add, hze]

include hT in
theorem run_indexAt_array {t e n : Nat} (hkn : tknown T t) (hk : tkind T t = .array n e) (hke : tknown T e) {k : IntKind} {i : Int} {b o : Nat} (h0 : 0 ≤ i) (h1 : i < n) (w : World) :
    (Instr.indexAt t (.pointer (some ⟨b, o, none⟩)) (.int k i)).run P w = .ok (.pointer (some ⟨b, o + i.toNat * tsize T e, none⟩)) w := by
  obtain ⟨ti, ht, _, hkk, _⟩ := tknown_some hkn
  obtain ⟨te, hte, hze, _, _⟩ := tknown_some hke
  obtain ⟨d, hd, hdesc⟩ := (hT t ti ht).desc
  rw [hkk] at hk
  rw [hk] at hdesc
  simp only [TK.desc] at hdesc
  subst hdesc
  simp [Instr.indexAt, asIntOf, run_underlying hd, h0, h1, (hT e te hte).run_size, addr_add, hze, Instr.sureAddr]

include hT h in
theorem indexE_good {t : Nat} {x ix : AV} {v u : Value} (hx : Rep w (Yof B.X μ) μ x v) (hix : Rep w (Yof B.X μ) μ ix u) (hp : (indexE T s.mem t x ix).pre) :
    Good B w a s ((do pure (.value (← Instr.indexAt t v u)) : Sem Next).run P w) (indexE T s.mem t x ix) := by
  unfold indexE at *
  split at hp
  · rename_i k i
    obtain ⟨rfl, _⟩ := hix.one
    split at hp
    · rename_i e hk
      split at hp
      · rename_i sz l full
        obtain ⟨hkn, hke, hsz, h0, h1⟩ := hp
        rcases hx.seq_cells with ⟨rfl, p, rfl⟩ | ⟨b, off, cap, c, el, fr, rfl, hY, hb, _, _, _, hfit, hw, hone, hr⟩
        · simp at h1; omega
        · have hi : i.toNat < l.length := by omega
          refine ⟨w, .pointer (some ⟨b, off + i.toNat * tsize T e, none⟩), μ, .inl ?_, h, ?_⟩
          · simp [run_indexAt_slice hT hkn hk hke h0 h1]
          · have hfi := mul_lt_of_fit hi (Nat.le_refl (l.length * sz))
            have hwi := hw i.toNat hi
            have := Rep.ipt (w := w) (Y := Yof B.X μ) (μ := μ) (e := l.getD i.toNat .junk) (sub := 0) (b := b) (off := off + i.toNat * sz) hY hb (by rw [hwi]; omega)
              (fun j hj1 hj2 => hone j (by omega) (by rw [hwi] at hj2; omega)) (by rw [hwi]; exact hr i.toNat hi)
            rw [← hsz]
            exact this
      · rename_i id ver off len
        split at hp
        · rename_i b hb
          obtain ⟨hkn, hke, hsz, hver, h0, h1⟩ := hp
          obtain ⟨l, hm, hlv, hls, _⟩ := h.inv.box id b hb
          cases hx with
          | slOld hm' hv' => rw [hm] at hm'; cases hm'; omega
          | slNil hm' hv' hnf => simp at h1; omega
          | sl hm' hv' hbk hc hfit hz0 =>
            rename_i cap loc g n
            rw [hm] at hm'; cases hm'
            try simp only [hb]
            refine ⟨w, .pointer (some ⟨g, l.base + off * l.sz + i.toNat * tsize T e, none⟩), μ, .inl ?_, h, ?_⟩
            · simp [run_indexAt_slice hT hkn hk hke h0 h1]
            · have := Rep.pt (w := w) (Y := Yof B.X μ) (μ := μ) (id := id) (ver := ver) (idx := off + i.toNat) (sub := 0) hm hv' hbk hz0
              have e1 : l.base + (off + i.toNat) * l.sz + 0 = l.base + off * l.sz + i.toNat * tsize T e := by rw [Nat.add_mul, hls, hsz]; omega
              rw [e1] at this
              exact this
        · exact hp.elim
      · exact hp.elim
    · rename_i n e hk
      split at hp
      · rename_i id ver idx o
        split at hp
        · rename_i b hb
          obtain ⟨hkn, hke, hver, h0, h1⟩ := hp
          obtain ⟨l, hm, hlv, hls, _⟩ := h.inv.box id b hb
          cases hx with
          | ptOld hm' hv' => rw [hm] at hm'; cases hm'; omega
          | pt hm' hv' hbk hz0 =>
            rename_i loc g n
            try simp only [hb]
            refine ⟨w, .pointer (some ⟨g, loc.base + idx * loc.sz + (o + i.toNat * tsize T e), none⟩), μ, .inl ?_, h, .pt hm' hv' hbk hz0⟩
            simp [run_indexAt_array hT hkn hk hke h0 h1, Nat.add_assoc]
        · exact hp.elim
      · rename_i el o
        obtain ⟨hkn, hke, h0, h1⟩ := hp
        cases hx with
        | ipt hY hb hfit hone hr =>
          rename_i b o0 c el fr
          refine ⟨w, .pointer (some ⟨b, o0 + (o + i.toNat * tsize T e), none⟩), μ, .inl ?_, h, .ipt hY hb hfit hone hr⟩
          simp [run_indexAt_array hT hkn hk hke h0 h1, Nat.add_assoc]
      · exact hp.elim
    · exact hp.elim
  · exact hp.elim

/-! ### an element of an array that is a value; a field of a struct that is one -/
def elemE (T : TT) (t : Nat) (x ix : AV) : Out :=
  match ix with
  | .raw (.int _ i) => match tkind T t with
    | .array n e => match x with
      | .agg l => puts (tknown T t ∧ tknown T e ∧ 0 ≤ i ∧ i < n ∧ l.length = n * tsize T e) (sub (.agg l) (tkind T e).agg (i.toNat * tsize T e) (tsize T e))
      | _ => bad
    | _ => bad
  | _ => bad

include hT in
theorem run_part {e : Nat} (hke : tknown T e) {l : List AV} {cs : Array Value} {o : Nat} {w : World} {Y : Nat → Prop} {μ : Mu} (hr : Rep w Y μ (.agg l) (.agg cs)) (ho : o + tsize T e ≤ l.length) (w' : World) :
    ∃ v, (part e cs o).run P w' = .ok v w' ∧ Rep w Y μ (sub (.agg l) (tkind T e).agg o (tsize T e)) v := by
  obtain ⟨te, hte, hze, hkk, _⟩ := tknown_some hke
  have hk := hT e te hte
  have hp := hk.pos
  cases hr with
  | agg hs h1 hh =>
    have hr' : Rep w Y μ (.agg l) (elemVal (.agg l) (AV.agg l).width cs 0) := by
      simp only [elemVal, AV.width]
      have : cs.extract 0 (0 + l.length) = cs := by simp [← hs]
      rw [this]
      exact .agg hs h1 hh
    have hone : ∀ j, 0 ≤ j → j < 0 + (AV.agg l).width → (cs.getD j undef).oneCell' = true := fun j _ hj => h1 j (by simpa [AV.width] using hj)
    rw [hze] at ho
    cases hagg : te.kind.agg with
    | true =>
      refine ⟨.agg (cs.extract o (o + te.size)), ?_, ?_⟩
      · simp [part, hk.run_agg, hagg, hk.run_size]
      · have := rep_sub hr' (by simp [AV.width, hs]) hone (o := o) (n := te.size) (by simpa [AV.width] using ho)
        rw [hkk, hagg, hze]
        simpa using this
    | false =>
      refine ⟨cs.getD o undef, ?_, ?_⟩
      · have : cs[o]? = some (cs.getD o undef) := by simp [Array.getD_eq_getD_getElem?, show o < cs.size by omega]
        simp only [part, Sem.run_bind, hk.run_agg, hagg, Result.andThen_ok, Bool.false_eq_true, if_false]
        rw [this]
        rfl
      · have := rep_cell hr' (by simp [AV.width, hs]) (o := o) (by simp only [AV.width]; omega)
        rw [hkk, hagg, hze]
        simpa [sub] using this

omit hT in
theorem run_index_array {t n e : Nat} (hd : P.underlying t = some (.array n e)) {k : IntKind} {i : Int} {cs : Array Value} (h0 : 0 ≤ i) (h1 : i < n) {w : World} {sz : Nat} (hs : (sizeOf e).run P w = .ok sz w)
    {u : Value} (hu : (part e cs (i.toNat * sz)).run P w = .ok u w) : (Instr.index t (.agg cs) (.int k i)).run P w = .ok u w := by
  have hc : (0 ≤ i ∧ i < (n : Int)) := ⟨h0, h1⟩
  unfold Instr.index
  simp only [Sem.run_bind, asIntOf, Sem.run_pure, Result.andThen_ok, run_underlying hd]
  rw [if_pos hc]
  simp only [Sem.run_bind, hs, Result.andThen_ok, hu]

include hT h in
theorem elemE_good {t : Nat} {x ix : AV} {v u : Value} (hx : Rep w (Yof B.X μ) μ x v) (hix : Rep w (Yof B.X μ) μ ix u) (hp : (elemE T t x ix).pre) :
    Good B w a s ((do pure (.value (← Instr.index t v u)) : Sem Next).run P w) (elemE T t x ix) := by
  unfold elemE at *
  split at hp
  · rename_i k i
    obtain ⟨rfl, _⟩ := hix.one
    split at hp
    · rename_i n e hk
      split at hp
      · rename_i l
        obtain ⟨hkn, hke, h0, h1, hl⟩ := hp
        have hx' := hx
        cases hx with
        | agg hs hone hh =>
          rename_i cs
          have hi : i.toNat < n := by omega
          have hfi := mul_lt_of_fit hi (Nat.le_refl (n * tsize T e))
          obtain ⟨u, hru, hrep⟩ := run_part hT hke hx' (o := i.toNat * tsize T e) (by omega) w
          obtain ⟨ti, ht, _, hkk, _⟩ := tknown_some hkn
          obtain ⟨te, hte, hze, _, _⟩ := tknown_some hke
          obtain ⟨d, hd, hdesc⟩ := (hT t ti ht).desc
          rw [hkk] at hk
          rw [hk] at hdesc
          simp only [TK.desc] at hdesc
          subst hdesc
          refine ⟨w, u, μ, .inl ?_, h, hrep⟩
          rw [hze] at hru
          rw [Sem.run_bind, run_index_array hd h0 h1 ((hT e te hte).run_size w) hru]
          rfl
      · exact hp.elim
    · exact hp.elim
  · exact hp.elim

def partE (T : TT) (t : Nat) (x : AV) (k : Nat) : Out :=
  match tkind T t with
  | .struct fs => match fs[k]? with
    | some (off, size, ft) => match x with
      | .agg l => puts (tknown T t ∧ tknown T ft ∧ size = tsize T ft ∧ off + tsize T ft ≤ l.length) (nrm T ft (sub (.agg l) (tkind T ft).agg off (tsize T ft)))
      | _ => bad
    | none => bad
  | _ => bad

include hT h in
theorem partE_good {t k : Nat} {x : AV} {v : Value} (hx : Rep w (Yof B.X μ) μ x v) (hp : (partE T t x k).pre) :
    Good B w a s ((do pure (.value (← Instr.field t v k)) : Sem Next).run P w) (partE T t x k) := by
  unfold partE at *
  split at hp
  · rename_i fs hk
    split at hp
    · rename_i off size ft hf
      split at hp
      · rename_i l
        obtain ⟨hkn, hkf, hsz, ho⟩ := hp
        have hx' := hx
        cases hx with
        | agg hs hone hh =>
          rename_i cs
          obtain ⟨u, hru, hrep⟩ := run_part hT hkf hx' ho w
          obtain ⟨ti, ht, _, hkk, _⟩ := tknown_some hkn
          obtain ⟨d, hd, hdesc⟩ := (hT t ti ht).desc
          rw [hkk] at hk
          rw [hk] at hdesc
          obtain ⟨fields, rfl, hm⟩ := hdesc
          obtain ⟨f, hf1, hf2⟩ := mapM_get hm hf
          cases hi : P.info? f.type with
          | none => simp [hi] at hf2
          | some i =>
            simp only [hi, Option.map_some, Option.some.injEq, Prod.mk.injEq] at hf2
            obtain ⟨rfl, rfl, rfl⟩ := hf2
            have hf3 : fields[k]? = some f := by simpa using hf1
            refine ⟨w, u, μ, .inl ?_, h, rep_nrm hrep⟩
            simp only [Instr.field, Sem.run_bind, run_underlying hd, Result.andThen_ok, hf3, asAgg, Sem.run_pure, hru]
      · exact hp.elim
    · exact hp.elim
  · exact hp.elim

/-! ### slices -/
def intA : Option AV → Option Int
  | some (.raw (.int _ i)) => some i
  | _ => none

def sliceE (T : TT) (m : List (Nat × Option Box)) (t : Nat) (x : AV) (lo hi mx : Option AV) : Out :=
  match tkind T t with
  | .slice e => match x with
    | .seq sz l full => match lo, hi, mx with
      | none, none, none => puts (tknown T t ∧ tknown T e ∧ sz = tsize T e) (.seq sz l full)
      | some (.raw (.int _ i)), none, none => puts (tknown T t ∧ tknown T e ∧ sz = tsize T e ∧ 0 ≤ i ∧ i ≤ l.length) (.seq sz (l.drop i.toNat) full)
      | none, some (.raw (.int _ j)), none => puts (tknown T t ∧ tknown T e ∧ sz = tsize T e ∧ 0 ≤ j ∧ j ≤ l.length) (.seq sz (l.take j.toNat) (full && decide (l.length ≤ j.toNat)))
      | some (.raw (.int _ i)), some (.raw (.int _ j)), none => puts (tknown T t ∧ tknown T e ∧ sz = tsize T e ∧ 0 ≤ i ∧ i ≤ j ∧ j ≤ l.length) (.seq sz ((l.take j.toNat).drop i.toNat) false)
      | none, some (.raw (.int _ j)), some (.raw (.int _ k)) => puts (tknown T t ∧ tknown T e ∧ sz = tsize T e ∧ 0 ≤ j ∧ j = k ∧ k ≤ l.length) (.seq sz (l.take j.toNat) true)
      | some (.raw (.int _ i)), some (.raw (.int _ j)), some (.raw (.int _ k)) => puts (tknown T t ∧ tknown T e ∧ sz = tsize T e ∧ 0 ≤ i ∧ i ≤ j ∧ j = k ∧ k ≤ l.length) (.seq sz ((l.take j.toNat).drop i.toNat) true)
      | _, _, _ => bad
    | .sl id ver off len => match find m id with
      | some b => match lo, hi, mx with
        | none, none, none => puts (tknown T t ∧ tknown T e ∧ b.sz = tsize T e ∧ b.ver = ver) (.sl id ver off len)
        | some (.raw (.int _ i)), none, none => puts (tknown T t ∧ tknown T e ∧ b.sz = tsize T e ∧ b.ver = ver ∧ 0 ≤ i ∧ i ≤ len) (.sl id ver (off + i.toNat) (len - i.toNat))
        | none, some (.raw (.int _ j)), none => puts (tknown T t ∧ tknown T e ∧ b.sz = tsize T e ∧ b.ver = ver ∧ 0 ≤ j ∧ off + j ≤ b.els.length) (.sl id ver off j.toNat)
        | some (.raw (.int _ i)), some (.raw (.int _ j)), none => puts (tknown T t ∧ tknown T e ∧ b.sz = tsize T e ∧ b.ver = ver ∧ 0 ≤ i ∧ i ≤ j ∧ off + j ≤ b.els.length) (.sl id ver (off + i.toNat) (j.toNat - i.toNat))
        | some (.raw (.int _ i)), some (.raw (.int _ j)), some (.raw (.int _ k)) => puts (tknown T t ∧ tknown T e ∧ b.sz = tsize T e ∧ b.ver = ver ∧ 0 ≤ i ∧ i ≤ j ∧ j ≤ k ∧ off + k ≤ b.els.length) .junk
        | _, _, _ => bad
      | none => bad
    | _ => bad
  | _ => bad

/-- What a slice expression gives for bounds that are met. -/
theorem run_sliceAt_at {t e : Nat} {d : TypeDesc} (hd : P.underlying t = some d) (hde : d = .slice e) {sz : Nat} (hs : ∀ w, (sizeOf e).run P w = .ok sz w) {p : Option Addr} {n cap l j m : Nat} {lo hi mx : Option Value}
    (hb : ∀ w, (Instr.sliceBounds true n cap lo hi mx).run P w = .ok (l, j, m) w) (w : World) :
    (Instr.sliceAt t (.slice p n cap) lo hi mx).run P w = .ok (.slice (if m = l then p else p.map (·.add (l * sz))) (j - l) (m - l)) w := by
  subst hde
  simp [Instr.sliceAt, Instr.slice, run_underlying hd, hb, hs]

theorem run_bound {k : IntKind} {i : Int} {y : Nat} {code : BoundsCode} (h0 : 0 ≤ i) (h1 : i ≤ y) (w : World) : (Instr.sliceBound (.int k i) y code).run P w = .ok i.toNat w := by
  simp [Instr.sliceBound, asIntOf, h0, h1]

theorem take_seq {w : World} {Y : Nat → Prop} {μ : Mu} {sz : Nat} {l : List AV} {full full' : Bool} {p : Option Addr} {n cap i j m : Nat} (hx : Rep w Y μ (.seq sz l full) (.slice p n cap)) (hij : i ≤ j) (hj : j ≤ l.length)
    (hm : j ≤ m) (hmc : m ≤ cap) (hf : full' = true → m = j) : Rep w Y μ (.seq sz ((l.take j).drop i) full') (.slice (if m = i then p else p.map (·.add (i * sz))) (j - i) (m - i)) := by
  rcases hx.seq_cells with ⟨rfl, p', e⟩ | ⟨b, off, cap', c, el, fr, e, hY, hb, hc, hff, hbig, hfit, hw, hone, hr⟩
  · simp only [Value.slice.injEq] at e
    obtain ⟨rfl, rfl, rfl⟩ := e
    have : j = 0 := by simpa using hj
    have : i = 0 := by omega
    have : m = 0 := by omega
    subst_vars
    simp only [List.take_nil, List.drop_nil, if_true]
    exact .nil
  · simp only [Value.slice.injEq] at e
    obtain ⟨rfl, rfl, rfl⟩ := e
    have hlen : ((l.take j).drop i).length = j - i := by simp; omega
    have hget : ∀ k, k < j - i → ((l.take j).drop i).getD k .junk = l.getD (i + k) .junk := by
      intro k hk
      simp only [List.getD_eq_getElem?_getD, List.getElem?_drop, List.getElem?_take]
      rw [if_pos (by omega)]
    have hmul : i * sz + (j - i) * sz ≤ l.length * sz := by rw [← Nat.add_mul]; exact Nat.mul_le_mul_right _ (by omega)
    by_cases hmi : m = i
    · have hji : j = i := by omega
      subst hmi hji
      simp only [if_true]
      have hnil : (l.take j).drop j = [] := List.eq_nil_of_length_eq_zero (by rw [hlen]; omega)
      rw [hnil]
      have := Rep.seq (w := w) (Y := Y) (μ := μ) (sz := sz) (l := []) (full := full') (b := b) (off := off) (cap := 0) hY hb (by simp) (by simp) (by simp) (by simp; omega) (by simp) (by intro j' h1 h2; simp at h2; omega) (by simp)
      simpa using this
    · rw [if_neg hmi]
      have hadd : (some (⟨b, off, none⟩ : Addr)).map (·.add (i * sz)) = some ⟨b, off + i * sz, none⟩ := by simp [addr_add]
      rw [hadd]
      have := Rep.seq (w := w) (Y := Y) (μ := μ) (sz := sz) (l := (l.take j).drop i) (full := full') (b := b) (off := off + i * sz) (cap := m - i) hY hb (by rw [hlen]; omega) (fun hf' => by rw [hlen, hf hf'])
        (by rw [hlen]; omega) (by rw [hlen]; omega) (fun k hk => by rw [hlen] at hk; rw [hget k hk]; exact hw _ (by omega))
        (fun k hk1 hk2 => hone k (by omega) (by rw [hlen] at hk2; omega))
        (fun k hk => by
          rw [hlen] at hk
          rw [hget k hk]
          have := hr (i + k) (by omega)
          rw [Nat.add_assoc, ← Nat.add_mul]
          exact this)
      rw [hlen] at this
      exact this

include h in
theorem take_sl {id ver off len i j m : Nat} {b : Box} (hb : find s.mem id = some b) (hver : b.ver = ver) {p : Option Addr} {n cap : Nat} (hx : Rep w (Yof B.X μ) μ (.sl id ver off len) (.slice p n cap)) (hij : i ≤ j) (hm : j ≤ m) (hmc : m = cap) : Rep w (Yof B.X μ) μ (.sl id ver (off + i) (j - i)) (.slice (if m = i then p else p.map (·.add (i * b.sz))) (j - i) (m - i)) := by
  obtain ⟨l, hm', hlv, hls, _⟩ := h.inv.box id b hb
  cases hx with
  | slOld hm2 hv' => rw [hm'] at hm2; cases hm2; omega
  | slNil hm2 hv' hnf =>
    have : i = 0 := by omega
    have : j = 0 := by omega
    have : m = 0 := by omega
    subst_vars
    exact .slNil hm2 hv' hnf
  | sl hm2 hv' hbk hc hfit hz0 =>
    rename_i loc g nn
    rw [hm'] at hm2; cases hm2
    by_cases hmi : m = i
    · have hji : j = i := by omega
      subst hmi hji
      simp only [if_true, Nat.sub_self]
      refine .slNil hm' hv' fun g' n' e hz' => ?_
      rw [hbk] at e
      cases e
      rw [hmc]
      omega
    · rw [if_neg hmi]
      have hadd : (some (⟨g, l.base + off * l.sz, none⟩ : Addr)).map (·.add (i * b.sz)) = some ⟨g, l.base + (off + i) * l.sz, none⟩ := by simp [addr_add, hls, Nat.add_mul, Nat.add_assoc]
      rw [hadd]
      refine .sl hm' hv' hbk (by omega) ?_ hz0
      rw [show off + i + (m - i) = off + cap by omega]
      exact hfit

include hT h in
theorem sliceE_good {t : Nat} {x : AV} {v : Value} {lo hi mx : Option AV} {lo' hi' mx' : Option Value} (hx : Rep w (Yof B.X μ) μ x v)
    (hlo : ∀ k i, lo = some (.raw (.int k i)) → lo' = some (.int k i)) (hlo0 : lo = none → lo' = none)
    (hhi : ∀ k i, hi = some (.raw (.int k i)) → hi' = some (.int k i)) (hhi0 : hi = none → hi' = none)
    (hmx : ∀ k i, mx = some (.raw (.int k i)) → mx' = some (.int k i)) (hmx0 : mx = none → mx' = none)
    (hp : (sliceE T s.mem t x lo hi mx).pre) :
    Good B w a s ((do pure (.value (← Instr.sliceAt t v lo' hi' mx')) : Sem Next).run P w) (sliceE T s.mem t x lo hi mx) := by
  have key : ∀ e, tkind T t = .slice e → tknown T t → tknown T e → (∃ d, P.underlying t = some d ∧ d = .slice e) ∧ ∀ w, (sizeOf e).run P w = .ok (tsize T e) w := by
    intro e hk hkn hke
    obtain ⟨ti, ht, _, hkk, _⟩ := tknown_some hkn
    obtain ⟨te, hte, hze, _, _⟩ := tknown_some hke
    obtain ⟨d, hd, hdesc⟩ := (hT t ti ht).desc
    rw [hkk] at hk
    rw [hk] at hdesc
    exact ⟨⟨d, hd, hdesc⟩, fun w => by rw [hze]; exact (hT e te hte).run_size w⟩
  unfold sliceE at *
  split at hp
  · rename_i e hk
    split at hp
    · rename_i sz l full
      have hlen := hx.seq_len
      obtain ⟨p, cap, rfl⟩ := hlen
      have hcap : l.length ≤ cap := by
        rcases hx.seq_cells with ⟨rfl, p', e⟩ | ⟨b, off, cap', c, el, fr, e, hY, hb, hc, _⟩
        · simp
        · simp only [Value.slice.injEq] at e; omega
      have hfull : full = true → cap = l.length := by
        rcases hx.seq_cells with ⟨rfl, p', e⟩ | ⟨b, off, cap', c, el, fr, e, hY, hb, hc, hff, _⟩
        · simp only [Value.slice.injEq] at e; simp [e.2.2]
        · simp only [Value.slice.injEq] at e; intro hf; rw [e.2.2]; exact hff hf
      split at hp
      · obtain ⟨hkn, hke, hsz⟩ := hp
        obtain ⟨⟨d, hd, hde⟩, hs⟩ := key e hk hkn hke
        have := take_seq (full' := full) (i := 0) (j := l.length) (m := cap) hx (by omega) (by omega) hcap (Nat.le_refl _) hfull
        refine ⟨w, _, μ, .inl ?_, h, by simpa [puts] using this⟩
        rw [hlo0 rfl, hhi0 rfl, hmx0 rfl]
        simp only [Sem.run_bind]
        rw [run_sliceAt_at hd hde hs (l := 0) (j := l.length) (m := cap) (by intro w; simp [Instr.sliceBounds])]
        simp [hsz]
      · obtain ⟨hkn, hke, hsz, h0, h1⟩ := hp
        rename_i k i
        obtain ⟨⟨d, hd, hde⟩, hs⟩ := key e hk hkn hke
        have := take_seq (full' := full) (i := i.toNat) (j := l.length) (m := cap) hx (by omega) (by omega) hcap (Nat.le_refl _) hfull
        refine ⟨w, _, μ, .inl ?_, h, by simpa [puts] using this⟩
        rw [hlo _ _ rfl, hhi0 rfl, hmx0 rfl]
        simp only [Sem.run_bind]
        rw [run_sliceAt_at hd hde hs (l := i.toNat) (j := l.length) (m := cap) (by intro w; simp [Instr.sliceBounds, run_bound h0 h1])]
        simp [hsz]
      · obtain ⟨hkn, hke, hsz, h0, h1⟩ := hp
        rename_i k j
        obtain ⟨⟨d, hd, hde⟩, hs⟩ := key e hk hkn hke
        have := take_seq (full' := full && decide (l.length ≤ j.toNat)) (i := 0) (j := j.toNat) (m := cap) hx (by omega) (by omega) (by omega) (Nat.le_refl _) (by
          intro hf
          simp only [Bool.and_eq_true, decide_eq_true_eq] at hf
          have := hfull hf.1
          omega)
        refine ⟨w, _, μ, .inl ?_, h, by simpa [puts] using this⟩
        rw [hlo0 rfl, hhi _ _ rfl, hmx0 rfl]
        simp only [Sem.run_bind]
        rw [run_sliceAt_at hd hde hs (l := 0) (j := j.toNat) (m := cap) (by intro w; simp [Instr.sliceBounds, run_bound h0 (show j ≤ (cap : Int) by omega)])]
        simp [hsz]
      · obtain ⟨hkn, hke, hsz, h0, h1, h2⟩ := hp
        rename_i k i k' j
        obtain ⟨⟨d, hd, hde⟩, hs⟩ := key e hk hkn hke
        have := take_seq (full' := false) (i := i.toNat) (j := j.toNat) (m := cap) hx (by omega) (by omega) (by omega) (Nat.le_refl _) (by simp)
        refine ⟨w, _, μ, .inl ?_, h, by simpa [puts] using this⟩
        rw [hlo _ _ rfl, hhi _ _ rfl, hmx0 rfl]
        simp only [Sem.run_bind]
        rw [run_sliceAt_at hd hde hs (l := i.toNat) (j := j.toNat) (m := cap) (by intro w; simp [Instr.sliceBounds, run_bound (show 0 ≤ j by omega) (show j ≤ (cap : Int) by omega), run_bound h0 (show i ≤ (j.toNat : Int) by omega)])]
        simp [hsz]
      · obtain ⟨hkn, hke, hsz, h0, h1, h2⟩ := hp
        rename_i k j k' m
        subst h1
        obtain ⟨⟨d, hd, hde⟩, hs⟩ := key e hk hkn hke
        have := take_seq (full' := true) (i := 0) (j := j.toNat) (m := j.toNat) hx (by omega) (by omega) (by omega) (by omega) (by simp)
        refine ⟨w, _, μ, .inl ?_, h, by simpa [puts] using this⟩
        rw [hlo0 rfl, hhi _ _ rfl, hmx _ _ rfl]
        simp only [Sem.run_bind]
        rw [run_sliceAt_at hd hde hs (l := 0) (j := j.toNat) (m := j.toNat) (by intro w; simp [Instr.sliceBounds, run_bound h0 (show j ≤ (cap : Int) by omega), run_bound h0 (show j ≤ (j.toNat : Int) by omega)])]
        simp [hsz]
      · obtain ⟨hkn, hke, hsz, h0, h1, h2, h3⟩ := hp
        rename_i k i k' j k'' m
        subst h2
        obtain ⟨⟨d, hd, hde⟩, hs⟩ := key e hk hkn hke
        have := take_seq (full' := true) (i := i.toNat) (j := j.toNat) (m := j.toNat) hx (by omega) (by omega) (by omega) (by omega) (by simp)
        refine ⟨w, _, μ, .inl ?_, h, by simpa [puts] using this⟩
        rw [hlo _ _ rfl, hhi _ _ rfl, hmx _ _ rfl]
        simp only [Sem.run_bind]
        rw [run_sliceAt_at hd hde hs (l := i.toNat) (j := j.toNat) (m := j.toNat) (by intro w; simp [Instr.sliceBounds, run_bound (show 0 ≤ j by omega) (show j ≤ (cap : Int) by omega), run_bound (show 0 ≤ j by omega) (show j ≤ (j.toNat : Int) by omega), run_bound h0 (show i ≤ (j.toNat : Int) by omega)])]
        simp [hsz]
      · exact hp.elim
    · rename_i id ver off len
      split at hp
      · rename_i b hb
        obtain ⟨lc, hm', hlv, hls, _⟩ := h.inv.box id b hb
        have hval : b.ver = ver → ∃ p cap, v = .slice p len cap ∧ len ≤ cap := by
          intro hver
          cases hx with
          | slOld hm2 hv' => rw [hm'] at hm2; cases hm2; omega
          | slNil hm2 hv' hnf => exact ⟨_, _, rfl, by simp⟩
          | sl hm2 hv' hbk hc hfit hz0 => exact ⟨_, _, rfl, hc⟩
        have hrm : ∀ {p cap}, tknown T e → b.sz = tsize T e → b.ver = ver → v = .slice p len cap → b.els.length ≤ off + cap := by
          intro p cap hke hsz hver hv
          obtain ⟨te, hte, hze, _, _⟩ := tknown_some hke
          have := (hT e te hte).pos
          exact sl_room h hb hver (by omega) (hv ▸ hx)
        try simp only [hb]
        split at hp
        · obtain ⟨hkn, hke, hsz, hver⟩ := hp
          obtain ⟨p, cap, rfl, hcap⟩ := hval hver
          obtain ⟨⟨d, hd, hde⟩, hs⟩ := key e hk hkn hke
          have := take_sl (i := 0) (j := len) (m := cap) h hb hver hx (by omega) hcap rfl
          refine ⟨w, _, μ, .inl ?_, h, by simpa [puts] using this⟩
          rw [hlo0 rfl, hhi0 rfl, hmx0 rfl]
          simp only [Sem.run_bind]
          rw [run_sliceAt_at hd hde hs (l := 0) (j := len) (m := cap) (by intro w; simp [Instr.sliceBounds])]
          simp [hsz]
        · obtain ⟨hkn, hke, hsz, hver, h0, h1⟩ := hp
          rename_i k i
          obtain ⟨p, cap, rfl, hcap⟩ := hval hver
          obtain ⟨⟨d, hd, hde⟩, hs⟩ := key e hk hkn hke
          have := take_sl (i := i.toNat) (j := len) (m := cap) h hb hver hx (by omega) hcap rfl
          refine ⟨w, _, μ, .inl ?_, h, by simpa [puts] using this⟩
          rw [hlo _ _ rfl, hhi0 rfl, hmx0 rfl]
          simp only [Sem.run_bind]
          rw [run_sliceAt_at hd hde hs (l := i.toNat) (j := len) (m := cap) (by intro w; simp [Instr.sliceBounds, run_bound h0 h1])]
          simp [hsz]
        · obtain ⟨hkn, hke, hsz, hver, h0, h1⟩ := hp
          rename_i k j
          obtain ⟨p, cap, hve, hcap⟩ := hval hver
          have hr := hrm hke hsz hver hve
          subst hve
          obtain ⟨⟨d, hd, hde⟩, hs⟩ := key e hk hkn hke
          have := take_sl (i := 0) (j := j.toNat) (m := cap) h hb hver hx (by omega) (by omega) rfl
          refine ⟨w, _, μ, .inl ?_, h, by simpa [puts] using this⟩
          rw [hlo0 rfl, hhi _ _ rfl, hmx0 rfl]
          simp only [Sem.run_bind]
          rw [run_sliceAt_at hd hde hs (l := 0) (j := j.toNat) (m := cap) (by intro w; simp [Instr.sliceBounds, run_bound h0 (show j ≤ (cap : Int) by omega)])]
          simp [hsz]
        · obtain ⟨hkn, hke, hsz, hver, h0, h1, h2⟩ := hp
          rename_i k i k' j
          obtain ⟨p, cap, hve, hcap⟩ := hval hver
          have hr := hrm hke hsz hver hve
          subst hve
          obtain ⟨⟨d, hd, hde⟩, hs⟩ := key e hk hkn hke
          have := take_sl (i := i.toNat) (j := j.toNat) (m := cap) h hb hver hx (by omega) (by omega) rfl
          refine ⟨w, _, μ, .inl ?_, h, by simpa [puts] using this⟩
          rw [hlo _ _ rfl, hhi _ _ rfl, hmx0 rfl]
          simp only [Sem.run_bind]
          rw [run_sliceAt_at hd hde hs (l := i.toNat) (j := j.toNat) (m := cap) (by intro w; simp [Instr.sliceBounds, run_bound (show 0 ≤ j by omega) (show j ≤ (cap : Int) by omega), run_bound h0 (show i ≤ (j.toNat : Int) by omega)])]
          simp [hsz]
        · obtain ⟨hkn, hke, hsz, hver, h0, h1, h2, h3⟩ := hp
          rename_i k i k' j k'' m
          obtain ⟨p, cap, hve, hcap⟩ := hval hver
          have hr := hrm hke hsz hver hve
          subst hve
          obtain ⟨⟨d, hd, hde⟩, hs⟩ := key e hk hkn hke
          refine ⟨w, .slice (if m.toNat = i.toNat then p else p.map (·.add (i.toNat * b.sz))) (j.toNat - i.toNat) (m.toNat - i.toNat), μ, .inl ?_, h, .junk⟩
          rw [hlo _ _ rfl, hhi _ _ rfl, hmx _ _ rfl]
          simp only [Sem.run_bind]
          rw [run_sliceAt_at hd hde hs (l := i.toNat) (j := j.toNat) (m := m.toNat) (by intro w; simp [Instr.sliceBounds, run_bound (show 0 ≤ m by omega) (show m ≤ (cap : Int) by omega), run_bound (show 0 ≤ j by omega) (show j ≤ (m.toNat : Int) by omega), run_bound h0 (show i ≤ (j.toNat : Int) by omega)])]
          simp [hsz]
        · exact hp.elim
      · exact hp.elim
    · exact hp.elim
  · exact hp.elim
end

end Go.Abs
end
