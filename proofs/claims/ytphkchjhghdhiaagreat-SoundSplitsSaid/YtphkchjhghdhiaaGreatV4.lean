/- Part 4 of the proof: the value layer and the contracts of the functions that the statement reaches; proved without conditions beyond those each theorem states. -/
import Derived.WalkSpells
import Derived.Laws.StructEq
import Derived.Test.YtphkchjhghdhiaaGreatV3
set_option linter.unusedSimpArgs false
set_option linter.unusedVariables false

section
/- The value layer, part 21: what is to be shown of code, and that it is enough. -/
namespace Go.Abs
universe u

/-! ### weaker states -/
def leV (a v : AV) : Prop :=
  match v with
  | .junk => True
  | .seq sz l false => a = .seq sz l false ∨ a = .seq sz l true
  | v => a = v

def leEnv (e : List (Nat × AV)) : List (Nat × AV) → Prop
  | [] => True
  | (k, v) :: l => leV (get e k) v ∧ leEnv e l

/-- An element that says less. -/
def leE (a v : AV) : Prop :=
  match v with
  | .seq sz l false => a = .seq sz l false ∨ a = .seq sz l true
  | v => a = v
def leEls : List AV → List AV → Prop
  | [], [] => True
  | a :: l, v :: m => leE a v ∧ leEls l m
  | _, _ => False
def leBox : Option Box → Box → Prop
  | some b', b => b'.sz = b.sz ∧ b'.ver = b.ver ∧ (b'.var = b.var ∨ (b'.var = false ∧ b.sz ≠ 0)) ∧ leEls b'.els b.els
  | none, _ => False
def leMem (m : List (Nat × Option Box)) : List (Nat × Option Box) → Prop
  | [] => True
  | (k, b) :: l => (match b with | some b => find m k = some b ∨ leBox (find m k) b | none => True) ∧ leMem m l
theorem leE_refl (a : AV) : leE a a := by
  unfold leE
  split
  · exact .inl rfl
  · rfl
theorem leEls_refl : ∀ l : List AV, leEls l l
  | [] => trivial
  | a :: l => ⟨leE_refl a, leEls_refl l⟩
theorem leEls_len : ∀ {l m : List AV}, leEls l m → l.length = m.length
  | [], [], _ => rfl
  | a :: l, v :: m, h => by simp [leEls_len h.2]
  | [], _ :: _, h => h.elim
  | _ :: _, [], h => h.elim
theorem leEls_get : ∀ {l m : List AV}, leEls l m → ∀ i, leE (l.getD i .junk) (m.getD i .junk)
  | [], [], _, i => by simp [leE]
  | a :: l, v :: m, h, 0 => by simpa using h.1
  | a :: l, v :: m, h, i + 1 => by simpa using leEls_get h.2 i
  | [], _ :: _, h, _ => h.elim
  | _ :: _, [], h, _ => h.elim
theorem leE_rep {w : World} {Y : Nat → Prop} {μ : Mu} {a v : AV} {x : Value} (h : leE a v) (hr : Rep w Y μ a x) : Rep w Y μ v x := by
  unfold leE at h
  split at h
  · rcases h with rfl | rfl
    · exact hr
    · cases hr with
      | nil => exact .nil
      | seq hY hb hc hf hbig hfit hw h1 h => exact .seq hY hb hc (fun h => by cases h) hbig hfit hw h1 h
  · rw [← h]; exact hr
theorem leE_width {a v : AV} (h : leE a v) : v.width = a.width := by
  unfold leE at h
  split at h
  · rcases h with rfl | rfl <;> rfl
  · rw [h]
theorem leE_elemVal {a v : AV} (h : leE a v) (sz : Nat) (c : Array Value) (o : Nat) : elemVal v sz c o = elemVal a sz c o := by
  unfold leE at h
  split at h
  · rcases h with rfl | rfl <;> rfl
  · rw [h]
theorem leBox_holds {w : World} {Y : Nat → Prop} {μ : Mu} {l : Loc} {b' b : Box} (h : leBox (some b') b) (hh : Holds w Y μ l b') : Holds w Y μ l b := by
  obtain ⟨e1, e2, e3, e4⟩ := h
  have hlen := leEls_len e4
  unfold Holds at hh ⊢
  refine ⟨by rw [← hlen]; exact hh.1, ?_⟩
  have h2 := hh.2
  cases hbk : l.blk with
  | none =>
    rw [hbk] at h2
    exact List.eq_nil_of_length_eq_zero (by rw [← hlen, h2]; rfl)
  | some gn =>
    obtain ⟨g, n⟩ := gn
    rw [hbk] at h2
    refine ⟨fun hz => ?_, fun hz => ?_⟩
    · rw [← e1] at hz
      obtain ⟨c, el, hw, hcs, hfit, h1, hr⟩ := h2.1 hz
      refine ⟨c, el, hw, hcs, by rw [← hlen, ← e1]; exact hfit, h1, fun i hi => ?_⟩
      rw [← hlen] at hi
      have hg := leEls_get e4 i
      rw [leE_width hg, leE_elemVal hg, ← e1]
      refine ⟨(hr i hi).1, ?_⟩
      have h3 := leE_rep hg (hr i hi).2
      rcases e3 with e3 | ⟨e3, _⟩
      · rw [← e3]; exact h3
      · rw [e3] at h3
        split
        · exact h3.mono (fun b hb _ => ⟨hb, rfl⟩) (Mu.none_later μ)
        · exact h3
    · rw [← e1] at hz
      obtain ⟨hv, es, clock, hw, hs, hr⟩ := h2.2 hz
      have hv2 : b.var = false := by
        rcases e3 with e3 | ⟨_, e3⟩
        · rw [← e3]; exact hv
        · exact absurd (e1.symm.trans hz) e3
      exact ⟨hv2, es, clock, hw, by rw [← hlen]; exact hs, fun i hi => leE_rep (leEls_get e4 i) (hr i (by rw [hlen]; exact hi))⟩

def alive (m : List (Nat × Option Box)) (ids : List Nat) : Bool := ids.all fun id => (find m id).isSome

def aliveEnv (m : List (Nat × Option Box)) : List (Nat × AV) → Bool
  | [] => true
  | (_, v) :: l => alive m v.refs && aliveEnv m l

def aliveMem (m : List (Nat × Option Box)) : List (Nat × Option Box) → Bool
  | [] => true
  | (_, some b) :: l => (!b.var || alive m (AV.refsL b.els)) && aliveMem m l
  | (_, none) :: l => aliveMem m l

def le (s s' : St) : Prop := leEnv s.env s'.env ∧ leMem s.mem s'.mem ∧ aliveEnv s'.mem s'.env = true ∧ aliveMem s'.mem s'.mem = true

theorem leV_rep {w : World} {Y : Nat → Prop} {μ : Mu} {a v : AV} {x : Value} (h : leV a v) (hr : Rep w Y μ a x) : Rep w Y μ v x := by
  unfold leV at h
  split at h
  · exact .junk
  · rcases h with rfl | rfl
    · exact hr
    · cases hr with
      | nil => exact .nil
      | seq hY hb hc hf hbig hfit hw h1 h => exact .seq hY hb hc (fun h => by cases h) hbig hfit hw h1 h
  · rw [← h]; exact hr

theorem leEnv_get {e : List (Nat × AV)} : ∀ {l : List (Nat × AV)}, leEnv e l → ∀ t, leV (get e t) (get l t)
  | [], _, t => trivial
  | (k, v) :: l, h, t => by
    simp only [get]
    split
    · rename_i e; rw [e]; exact h.1
    · exact leEnv_get h.2 t

theorem leMem_find {m : List (Nat × Option Box)} : ∀ {l : List (Nat × Option Box)}, leMem m l → ∀ {id : Nat} {b : Box}, find l id = some b → ∃ b', find m id = some b' ∧ leBox (some b') b
  | (k, ob) :: l, h, id, b, hf => by
    simp only [find] at hf
    split at hf
    · rename_i e
      subst hf
      rw [e]
      have h1 : find m k = some b ∨ leBox (find m k) b := h.1
      rcases h1 with h1 | h1
      · exact ⟨b, h1, rfl, rfl, .inl rfl, leEls_refl _⟩
      · cases hfm : find m k with
        | none => rw [hfm] at h1; exact h1.elim
        | some b' => rw [hfm] at h1; exact ⟨b', rfl, h1⟩
    · exact leMem_find h.2 hf

theorem alive_mem {m : List (Nat × Option Box)} {ids : List Nat} (h : alive m ids = true) : ∀ id ∈ ids, (find m id).isSome = true := fun id hid => List.all_eq_true.1 h id hid

theorem aliveEnv_get {m : List (Nat × Option Box)} : ∀ {l : List (Nat × AV)}, aliveEnv m l = true → ∀ t, alive m (get l t).refs = true
  | [], _, t => by simp [get, AV.refs, alive]
  | (k, v) :: l, h, t => by
    simp only [aliveEnv, Bool.and_eq_true] at h
    simp only [get]
    split
    · exact h.1
    · exact aliveEnv_get h.2 t

theorem aliveMem_find {m : List (Nat × Option Box)} : ∀ {l : List (Nat × Option Box)}, aliveMem m l = true → ∀ {id : Nat} {b : Box}, find l id = some b → b.var = true → alive m (AV.refsL b.els) = true
  | (k, some b') :: l, h, id, b, hf, hv => by
    simp only [aliveMem, Bool.and_eq_true] at h
    simp only [find] at hf
    split at hf
    · cases hf
      have := h.1
      rw [hv] at this
      simpa using this
    · exact aliveMem_find h.2 hf hv
  | (k, none) :: l, h, id, b, hf, hv => by
    simp only [find] at hf
    split at hf
    · cases hf
    · exact aliveMem_find (by simpa [aliveMem] using h) hf hv

theorem le_rel {B : Base} {w : World} {a : Act} {s s' : St} (hle : le s s') (h : Rel B w a s) : Rel B w a s' := by
  obtain ⟨he, hm, ha, hb⟩ := hle
  obtain ⟨μ, h⟩ := h
  let μ' : Mu := fun id => if (find s'.mem id).isSome then μ id else none
  have hμ : ∀ id, (find s'.mem id).isSome = true → μ' id = μ id := fun id hid => by simp only [μ', hid, if_true]
  have hμs : ∀ id l, μ' id = some l → μ id = some l := by
    intro id l hl
    simp only [μ'] at hl
    split at hl
    · exact hl
    · cases hl
  have hY : ∀ g, ¬ Yof B.X μ g → ¬ Yof B.X μ' g := by
    intro g hy hy'
    rcases hy' with hx | ⟨i, l, n, hm', hbk⟩
    · exact hy (.inl hx)
    · exact hy (.inr ⟨i, l, n, hμs i l hm', hbk⟩)
  have hmono : ∀ q, ¬ Yof B.X μ q → q < w.heap.size → ¬ Yof B.X μ' q ∧ w.heap[q]? = w.heap[q]? := fun q hy _ => ⟨hY q hy, rfl⟩
  have hrep : ∀ {x : AV} {v : Value}, alive s'.mem x.refs = true → Rep w (Yof B.X μ) μ x v → Rep w (Yof B.X μ') μ' x v := by
    intro x v hal hr
    exact (hr.on (μ' := μ') fun id hid => hμ id (alive_mem hal id hid)).mono hmono (Mu.later.refl _)
  refine ⟨μ', h.defers, h.size, ⟨?_, ?_, ?_, ?_⟩, fun t => hrep (aliveEnv_get ha t) (leV_rep (leEnv_get he t) (h.env t)), h.ext, ?_, h.base, ?_⟩
  · intro id hid
    simp [μ', hid]
  · intro id b hf
    obtain ⟨b', hfb, hle⟩ := leMem_find hm hf
    obtain ⟨l, hm', hv, hs, hh⟩ := h.inv.box id b' hfb
    replace hh := leBox_holds hle hh
    refine ⟨l, by rw [hμ id (by simp [hf])]; exact hm', hv.trans hle.2.1, hs.trans hle.1, ?_⟩
    unfold Holds at *
    refine ⟨hh.1, ?_⟩
    cases hbk : l.blk with
    | none => rw [hbk] at hh; exact hh.2
    | some gn =>
      obtain ⟨g, n⟩ := gn
      rw [hbk] at hh
      obtain ⟨_, hcell, hmp⟩ := hh
      refine ⟨fun hz => ?_, fun hz => ?_⟩
      · obtain ⟨c, el, hw, hcs, hn, h1, hr⟩ := hcell hz
        refine ⟨c, el, hw, hcs, hn, h1, fun i hi => ⟨(hr i hi).1, ?_⟩⟩
        have := (hr i hi).2
        cases hvar : b.var with
        | false => rw [hvar] at this; exact this.mono hmono (Mu.later.refl _)
        | true =>
          rw [hvar] at this
          refine hrep ?_ this
          have hal := aliveMem_find hb hf hvar
          unfold alive
          rw [List.all_eq_true]
          intro id' hid'
          exact alive_mem hal id' (AV.mem_refsL hi hid')
      · obtain ⟨hv0, es, clock, hw, hs, hr⟩ := hmp hz
        exact ⟨hv0, es, clock, hw, hs, fun k hk => (hr k hk).mono hmono (Mu.later.refl _)⟩
  · intro i i' l l' g n n' h1 h2 h3 h4
    exact h.inv.apart i i' l l' g n n' (hμs _ _ h1) (hμs _ _ h2) h3 h4
  · rintro g ⟨i, l, n, hm', hbk⟩
    exact h.inv.out g ⟨i, l, n, hμs _ _ hm', hbk⟩
  · rintro g ⟨i, l, n, hm', hbk⟩
    exact h.mine g ⟨i, l, n, hμs _ _ hm', hbk⟩
  · intro i l0 l h0 hm'
    exact h.kept i l0 l h0 (hμs _ _ hm')

/-! ### what is to be shown -/
/-- A tag: what it names is left alone by simp (nothing may be rewritten on which a type hangs). -/
@[reducible] def Tag {α : Sort u} (_ : α) : Type := Unit

/-- A call: some result that the callee's contract gives. -/
def CallS (P : Program) (g : FuncId) (as : List AV) (ok : Prop) (fl : Bool) (K : AV → Prop) : Prop := ∃ r, CallP P g as r ∧ ok ∧ (fl = true ∨ flat r = true) ∧ K r

/-- A call in a drawn region: some result that the callee's contract gives; or boxes are lent. -/
def CallK (P : Program) (m : List (Nat × Option Box)) (dst : Option Nat) (as0 : List AV) (ids : List Nat) (g : FuncId) (as : List AV) (ok : Prop) (fl : Bool) (K : AV → List (Nat × Option Box) → List Nat → Prop) (_t : Tag K := ()) : Prop :=
  (∃ r, CallP P g as r ∧ ok ∧ (fl = true ∨ flat r = true) ∧ K r [] ids) ∨
  (∃ (σ : Names) (r : AV) (m' : List (Nat × Option Box)), namesOK m σ ∧ CallB P g (renL (upN σ) as0) (lendM σ m σ) r m' ∧ K (renA (dnN σ) r) (backM σ m' σ) (σ.map (·.1))) ∨
  (∃ (d sz : Nat) (els : List AV), dst = some d ∧ CallO P g as0 sz els ∧ AV.refsL as0 = [] ∧ K (.sl d (nver m d) 0 els.length) [(d, some ⟨sz, els, nver m d, false⟩)] [d]) ∨
  (∃ (ex : List Nat) (v : AV) (up : List (Nat × Option Box)), MovesAt P m g as0 ex v up ∧ K v up ex)

/-- A guarded call. -/
def CallG (P : Program) (c : Bool) (g : FuncId) (as : List AV) (ok : Prop) (fl : Bool) (K : AV → Prop) (X : Prop) (_t : Tag K := ()) (_u : Tag X := ()) : Prop := (∃ r, (c = true → CallP P g as r ∧ ok ∧ (fl = true ∨ flat r = true)) ∧ K r) ∨ X

/-- A call with whatever contract: an immutable result; a result that the caller owns; a box that is lent. -/
def CallX0 (P : Program) (m : List (Nat × Option Box)) (d : Option Nat) (g : FuncId) (as : List AV) (K : AV → List (Nat × Option Box) → Prop) : Prop :=
  (∃ r, CallP P g (snapL m as) r ∧ snapOKL m as ∧ ((AV.refsL as).isEmpty = true ∨ flat r = true) ∧ K r []) ∨
  (∃ d' sz els, d = some d' ∧ CallO P g (snapL m as) sz els ∧ snapOKL m as ∧ (AV.refsL as = [] ∨ ∀ i, i < els.length → flat (els.getD i .junk) = true) ∧ K (.sl d' (nver m d') 0 els.length) [(d', some ⟨sz, els, nver m d', false⟩)]) ∨
  (∃ d' sz els, d = some d' ∧ CallO P g as sz els ∧ AV.refsL as = [] ∧ K (.sl d' (nver m d') 0 els.length) [(d', some ⟨sz, els, nver m d', false⟩)]) ∨
  (∃ pre id ver n suf b r els', as = pre ++ .sl id ver 0 n :: suf ∧ find m id = some b ∧ b.ver = ver ∧ b.var = false ∧ n = b.els.length ∧ AV.refsL pre = [] ∧ AV.refsL suf = [] ∧
    CallL P g (snapL m pre) b.sz b.els (snapL m suf) r els' ∧ K (r.av id ver) [(id, some ⟨b.sz, els', ver, false⟩)]) ∨
  (∃ (σ : Names) (r : AV) (m' : List (Nat × Option Box)), namesOK m σ ∧ CallB P g (renL (upN σ) as) (lendM σ m σ) r m' ∧ K (renA (dnN σ) r) (backM σ m' σ)) ∨
  (∃ d' sz els u, d = some d' ∧ CallT P g as sz els u ∧ AV.refsL as = [] ∧ K (.tup [.sl d' (nver m d') 0 els.length, .raw u]) [(d', some ⟨sz, els, nver m d', false⟩)]) ∨
  (∃ k r m', CallM P g as r m' ∧ (m'.all fun p => p.2.isSome) = true ∧ (∀ i b, find m' i = some b → find m (i + k) = none) ∧ AV.refsL as = [] ∧ K (renA (shf k m') r) (shM k m' m')) ∨
  (∃ r, CallP P g (deepL m as) r ∧ deepOKL m as ∧ flat r = true ∧ K r []) ∨
  (∃ d' sz els u, d = some d' ∧ CallT P g (deepL m as) sz els u ∧ deepOKL m as ∧ (∀ i, i < els.length → flat (els.getD i .junk) = true) ∧ K (.tup [.sl d' (nver m d') 0 els.length, .raw u]) [(d', some ⟨sz, els, nver m d', false⟩)])

/-- Boxes become immutable ahead of a call. -/
def frzC : List Nat → List AV → (St → List AV → Prop) → St → Prop
  | [], as, K, s => K s as
  | id :: l, as, K, s => match find s.mem id with
    | some b => (b.var = true → AV.refsL b.els = []) ∧ frzC l (frzL b id as) K (frzSt s id b)
    | none => False

/-- A call, some boxes made immutable ahead of it. -/
def CallX (P : Program) (s : St) (d : Option Nat) (g : FuncId) (as : List AV) (K : St → AV → List (Nat × Option Box) → Prop) (_t : Tag K := ()) : Prop :=
  ∃ ids, frzC ids as (fun s' as' => CallX0 P s'.mem d g as' (K s')) s

theorem CallX.pure {P : Program} {s : St} {d : Option Nat} {g : FuncId} {as : List AV} {K : St → AV → List (Nat × Option Box) → Prop} {r : AV} (h : CallP P g (snapL s.mem as) r) (h1 : snapOKL s.mem as) (h2 : (AV.refsL as).isEmpty = true ∨ flat r = true) (h3 : K s r []) : CallX P s d g as K :=
  ⟨[], .inl ⟨r, h, h1, h2, h3⟩⟩
theorem CallX.own {P : Program} {s : St} {d : Nat} {g : FuncId} {as : List AV} {K : St → AV → List (Nat × Option Box) → Prop} {sz : Nat} {els : List AV} (h : CallO P g (snapL s.mem as) sz els) (h1 : snapOKL s.mem as) (h2 : AV.refsL as = [] ∨ ∀ i, i < els.length → flat (els.getD i .junk) = true)
    (h3 : K s (.sl d (nver s.mem d) 0 els.length) [(d, some ⟨sz, els, nver s.mem d, false⟩)]) : CallX P s (some d) g as K := ⟨[], .inr (.inl ⟨d, sz, els, rfl, h, h1, h2, h3⟩)⟩
theorem CallX.own' {P : Program} {s : St} {d : Nat} {g : FuncId} {as : List AV} {K : St → AV → List (Nat × Option Box) → Prop} {sz : Nat} {els : List AV} (h : CallO P g as sz els) (h1 : AV.refsL as = [])
    (h3 : K s (.sl d (nver s.mem d) 0 els.length) [(d, some ⟨sz, els, nver s.mem d, false⟩)]) : CallX P s (some d) g as K := ⟨[], .inr (.inr (.inl ⟨d, sz, els, rfl, h, h1, h3⟩))⟩
theorem CallX.lend {P : Program} {s : St} {d : Option Nat} {g : FuncId} {as : List AV} {K : St → AV → List (Nat × Option Box) → Prop} (pre : List AV) {id ver n : Nat} (suf : List AV) {b : Box} (r : LRet) (els' : List AV) (ha : as = pre ++ .sl id ver 0 n :: suf)
    (hb : find s.mem id = some b) (hv : b.ver = ver) (hr : b.var = false) (hn : n = b.els.length) (h1 : AV.refsL pre = []) (h2 : AV.refsL suf = []) (h : CallL P g (snapL s.mem pre) b.sz b.els (snapL s.mem suf) r els') (hk : K s (r.av id ver) [(id, some ⟨b.sz, els', ver, false⟩)]) : CallX P s d g as K :=
  ⟨[], .inr (.inr (.inr (.inl ⟨pre, id, ver, n, suf, b, r, els', ha, hb, hv, hr, hn, h1, h2, h, hk⟩)))⟩
/-- Boxes are lent under other names. -/
theorem CallX.boxes {P : Program} {s : St} {d : Option Nat} {g : FuncId} {as : List AV} {K : St → AV → List (Nat × Option Box) → Prop} (σ : Names) {r : AV} {m' : List (Nat × Option Box)} (hσ : namesOK s.mem σ) (h : CallB P g (renL (upN σ) as) (lendM σ s.mem σ) r m')
    (hk : K s (renA (dnN σ) r) (backM σ m' σ)) : CallX P s d g as K := ⟨[], .inr (.inr (.inr (.inr (.inl ⟨σ, r, m', hσ, h, hk⟩))))⟩
/-- Two results, the first of which the caller owns. -/
theorem CallX.two {P : Program} {s : St} {d : Nat} {g : FuncId} {as : List AV} {K : St → AV → List (Nat × Option Box) → Prop} {sz : Nat} {els : List AV} {u : Value} (h : CallT P g as sz els u) (h1 : AV.refsL as = [])
    (h3 : K s (.tup [.sl d (nver s.mem d) 0 els.length, .raw u]) [(d, some ⟨sz, els, nver s.mem d, false⟩)]) : CallX P s (some d) g as K := ⟨[], .inr (.inr (.inr (.inr (.inr (.inl ⟨d, sz, els, u, rfl, h, h1, h3⟩)))))⟩
theorem fresh_of {k : Nat} {m : List (Nat × Option Box)} : ∀ {m' : List (Nat × Option Box)}, (m'.all fun p => (find m (p.1 + k)).isNone) = true → ∀ i b, find m' i = some b → find m (i + k) = none
  | [], _, i, b, h => by cases h
  | (c, x) :: l, h, i, b, hf => by
    simp only [List.all_cons, Bool.and_eq_true, Option.isNone_iff_eq_none] at h
    simp only [find] at hf
    split at hf
    · rename_i e; rw [e]; exact h.1
    · exact fresh_of h.2 i b hf
/-- The result owns boxes (their names moved up by k). -/
theorem CallX.mem {P : Program} {s : St} {d : Option Nat} {g : FuncId} {as : List AV} {K : St → AV → List (Nat × Option Box) → Prop} (k : Nat) {r : AV} {m' : List (Nat × Option Box)} (h : CallM P g as r m') (h1 : AV.refsL as = [])
    (h2 : (m'.all fun p => p.2.isSome) = true) (h3 : (m'.all fun p => (find s.mem (p.1 + k)).isNone) = true) (h4 : K s (renA (shf k m') r) (shM k m' m')) : CallX P s d g as K := ⟨[], .inr (.inr (.inr (.inr (.inr (.inr (.inl ⟨k, r, m', h, h2, fresh_of h3, h1, h4⟩))))))⟩
/-- The call sees lists of owned rows as immutable ones; its result holds no address. -/
theorem CallX.deep {P : Program} {s : St} {d : Option Nat} {g : FuncId} {as : List AV} {K : St → AV → List (Nat × Option Box) → Prop} {r : AV} (h : CallP P g (deepL s.mem as) r) (h1 : deepOKL s.mem as) (h2 : flat r = true) (h3 : K s r []) : CallX P s d g as K :=
  ⟨[], .inr (.inr (.inr (.inr (.inr (.inr (.inr (.inl ⟨r, h, h1, h2, h3⟩)))))))⟩
/-- The box becomes immutable ahead of the call. -/
theorem CallX.frz {P : Program} {s : St} {d : Option Nat} {g : FuncId} {as : List AV} {K : St → AV → List (Nat × Option Box) → Prop} (id : Nat) {b : Box} (hb : find s.mem id = some b) (hv : b.var = true → AV.refsL b.els = [])
    (h : CallX P (frzSt s id b) d g (frzL b id as) K) : CallX P s d g as K := by
  obtain ⟨ids, h⟩ := h
  refine ⟨id :: ids, ?_⟩
  simp only [frzC, hb]
  exact ⟨hv, h⟩

/-- A condition of an operation, and what comes behind. -/
def PreK (p : Prop) (K : Prop) (_t : Tag K := ()) : Prop := p ∧ K

/-- A test. -/
def CondK (c : AV) (X Y : Prop) (_t : Tag X := ()) (_u : Tag Y := ()) : Prop :=
  match c with
  | .raw (.bool b) => (b = true → X) ∧ (b = false → Y)
  | .maybe g (.raw (.bool b)) => g = true ∧ (b = true → X) ∧ (b = false → Y)
  | _ => False

/-- A slice against nil. -/
def NilK (isNil : Bool → Prop) (K : Bool → Prop) (_t : Tag K := ()) : Prop := ∀ b, isNil b → K b

theorem CallK.intro {P : Program} {m : List (Nat × Option Box)} {dst : Option Nat} {as0 : List AV} {ids : List Nat} {g : FuncId} {as : List AV} {ok : Prop} {fl : Bool} {K : AV → List (Nat × Option Box) → List Nat → Prop} {r : AV} (h : CallP P g as r) (h1 : ok) (h2 : fl = true ∨ flat r = true) (h3 : K r [] ids) : CallK P m dst as0 ids g as ok fl K :=
  .inl ⟨r, h, h1, h2, h3⟩
theorem CallK.boxes {P : Program} {m : List (Nat × Option Box)} {dst : Option Nat} {as0 : List AV} {ids : List Nat} {g : FuncId} {as : List AV} {ok : Prop} {fl : Bool} {K : AV → List (Nat × Option Box) → List Nat → Prop} (σ : Names) {r : AV} {m' : List (Nat × Option Box)} (hσ : namesOK m σ)
    (h : CallB P g (renL (upN σ) as0) (lendM σ m σ) r m') (h3 : K (renA (dnN σ) r) (backM σ m' σ) (σ.map (·.1))) : CallK P m dst as0 ids g as ok fl K := .inr (.inl ⟨σ, r, m', hσ, h, h3⟩)
/-- A call in a drawn region whose result the caller owns. -/
theorem CallK.own {P : Program} {m : List (Nat × Option Box)} {d : Nat} {as0 : List AV} {ids : List Nat} {g : FuncId} {as : List AV} {ok : Prop} {fl : Bool} {K : AV → List (Nat × Option Box) → List Nat → Prop} {sz : Nat} {els : List AV} (h : CallO P g as0 sz els) (h1 : AV.refsL as0 = [])
    (h3 : K (.sl d (nver m d) 0 els.length) [(d, some ⟨sz, els, nver m d, false⟩)] [d]) : CallK P m (some d) as0 ids g as ok fl K := .inr (.inr (.inl ⟨d, sz, els, rfl, h, h1, h3⟩))
/-- A call in a drawn region that puts two elements in the place of one of an own list. -/
theorem CallK.moves {P : Program} {m : List (Nat × Option Box)} {dst : Option Nat} {ids : List Nat} {g : FuncId} {as : List AV} {ok : Prop} {fl : Bool} {K : AV → List (Nat × Option Box) → List Nat → Prop} {id ver n id2 ver2 : Nat} {i j : Int} (k : Nat) {b b2 : Box} (hc : CallMv P g k n)
    (hi : i = (k : Int)) (hj : j = (k : Int) + 1) (hb : find m id = some b) (hv : b.ver = ver) (hz : b.sz = 1) (hn : n = b.els.length) (hb2 : find m id2 = some b2) (hv2 : b2.ver = ver2) (hz2 : b2.sz = 1) (h2 : b2.els.length = 2) (hne : id ≠ id2) (hk : k < n) (hbig : n ≤ 1000)
    (h : K (.sl id (b.ver + 1) 0 (n + 1)) [(id, some ⟨1, movedE b.els b2.els k, b.ver + 1, b.var || b2.var⟩)] [id, id2]) : CallK P m dst [.sl id ver 0 n, .raw (.int .i64 i), .raw (.int .i64 j), .sl id2 ver2 0 2] ids g as ok fl K := by
  subst hi hj
  exact .inr (.inr (.inr ⟨_, _, _, ⟨id, ver, n, k, id2, ver2, b, b2, rfl, rfl, hc, hb, hv, hz, hn, hb2, hv2, hz2, h2, hne, hk, hbig, rfl, rfl⟩, h⟩))
theorem CallG.intro {P : Program} {c : Bool} {g : FuncId} {as : List AV} {ok : Prop} {fl : Bool} {K : AV → Prop} {X : Prop} {r : AV} (h : c = true → CallP P g as r) (h1 : c = true → ok) (h2 : fl = true ∨ flat r = true) (h3 : K r) : CallG P c g as ok fl K X :=
  .inl ⟨r, fun hc => ⟨h hc, h1 hc, h2⟩, h3⟩
/-- A guarded call that is made: as one without a guard. -/
theorem CallG.made {P : Program} {g : FuncId} {as : List AV} {ok : Prop} {fl : Bool} {K : AV → Prop} {X : Prop} (h : X) : CallG P true g as ok fl K (true = true ∧ X) := .inr ⟨rfl, h⟩
theorem PreK.intro {p K : Prop} (h : p) (k : p → K) : PreK p K := ⟨h, k h⟩
theorem CondK.intro {b : Bool} {X Y : Prop} (h1 : b = true → X) (h2 : b = false → Y) : CondK (.raw (.bool b)) X Y := ⟨h1, h2⟩

/-- The condition alone, without its trivial parts. -/
def isCall : Op → Option (Operand × List Nat × List Operand)
  | .call ⟨.value f, args, ts⟩ => some (f, ts.toList, args.toList)
  | _ => none

/-- A comparison of a slice with nil: of which slice, and whether for being nil. -/
def isNilCmp : Op → Option (Operand × Nat × Bool)
  | .binOp .eql t x (.const (.slice none 0 0)) _ => some (x, t, true)
  | .binOp .neq t x (.const (.slice none 0 0)) _ => some (x, t, false)
  | _ => none

def nilOK (T : TT) (t : Nat) : Bool := match tkind T t with | .slice _ => (T t).isSome | _ => false

/-- What is known of a slice's being nil. -/
def nilOf (a : AV) (b : Bool) : Prop :=
  match a with
  | .seq _ l _ => b = true → l = []
  | .sl _ _ _ len => b = true → len = 0
  | .raw (.slice none 0 0) => b = true
  | _ => True
def nilArg (m : List (Nat × Option Box)) : AV → Prop
  | .seq _ _ _ => True
  | .sl id ver _ _ => ∃ x, find m id = some x ∧ x.ver = ver
  | .raw (.slice none 0 0) => True
  | _ => False

def vcStep (P : Program) (T : TT) (O : List Nat) (o : AOper) (s : St) (K : St → Prop) : Prop :=
  match isCall o.op with
  | some (f, ts, xs) => match tgt (st (ev s.env f)) (nrmL T ts (xs.map fun x => st (ev s.env x))) with
    | some (g, as) => PreK (firms s.env (firm o.op)) (CallS P g (snapL s.mem as) (snapOKL s.mem as) (AV.refsL as).isEmpty fun r => K (s.app o.dst r []))
    | none => False
  | none => PreK ((opE T O s.mem (o.dst.getD 0) o.ty s.env o.op).pre ∧ firms s.env (firm o.op)) (K (s.app o.dst (opE T O s.mem (o.dst.getD 0) o.ty s.env o.op).val (opE T O s.mem (o.dst.getD 0) o.ty s.env o.op).up))

def vcGuard (P : Program) (T : TT) (O : List Nat) (o : AOper) (c : Bool) (s : St) (K : St → Prop) : Prop :=
  match isCall o.op with
  | some (f, ts, xs) => match tgt (st (ev s.env f)) (nrmL T ts (xs.map fun x => st (ev s.env x))) with
    | some (g, as) => PreK (c = true → firms s.env (firm o.op)) (CallG P c g (snapL s.mem as) (snapOKL s.mem as) (AV.refsL as).isEmpty (fun r => K (s.app o.dst (.maybe c r) [])) False)
    | none => False
  | none => PreK (c = true → (opE T O s.mem (o.dst.getD 0) o.ty s.env o.op).pre ∧ firms s.env (firm o.op))
      (K (s.app o.dst (.maybe c (opE T O s.mem (o.dst.getD 0) o.ty s.env o.op).val) (if c = false then [] else (opE T O s.mem (o.dst.getD 0) o.ty s.env o.op).up)))

/-- One operation in the text's order. -/
def vcOp (P : Program) (T : TT) (O : List Nat) (o : AOper) (s : St) (K : St → Prop) : Prop :=
  match o.guard with
  | none => vcStep P T O o s K
  | some (g, want) => match guardOf (get s.env g) want with
    | some c => vcGuard P T O o c s K
    | none => False

/-- Boxes that become immutable. -/
def frzs : List Nat → (St → Prop) → St → Prop
  | [], K, s => K s
  | id :: l, K, s => match find s.mem id with
    | some b => PreK (b.var = true → AV.refsL b.els = []) (frzs l K (frzSt s id b))
    | none => False

/-- The rows of cells of the frame among boxes, each once. -/
def ownIds (m : List (Nat × Option Box)) : List Nat → List Nat
  | [] => []
  | id :: l => if l.contains id then ownIds m l else match find m id with
    | some b => if b.var = false ∧ b.sz ≠ 0 then id :: ownIds m l else ownIds m l
    | none => ownIds m l
def isBS : Op → Bool
  | .buildSlice _ _ _ => true
  | .call ⟨.builtin .cap, _, _⟩ => true
  | _ => false
/-- The argument of a cap, and its type. -/
def capArg : Op → Option (Operand × Nat)
  | .call ⟨.builtin .cap, ⟨[x]⟩, ⟨[t]⟩⟩ => some (x, t)
  | _ => none
theorem capArg_none {op : Op} (h : isBS op = false) : capArg op = none := by
  unfold capArg
  split
  · simp [isBS] at h
  · rfl
/-- The capacity of an own slice: some number not under its length. -/
def CapK (len : Nat) (K : Nat → Prop) (_t : Tag K := ()) : Prop := ∀ c, len ≤ c → K c
def isSlT : TK → Bool
  | .slice _ => true
  | _ => false
def CapG (T : TT) (m : List (Nat × Option Box)) (t : Nat) (g : Prop) (a : AV) (K : Nat → Prop) (G : Prop) (_t : Tag K := ()) (_u : Tag G := ()) : Prop :=
  match a with
  | .sl id ver _ len => PreK ((tknown T t ∧ isSlT (tkind T t) = true) ∧ g ∧ (match find m id with | some b => b.ver = ver | none => False)) (CapK len K)
  | _ => G
/-- Which boxes become immutable ahead of an operation: those of which a slice is an element of a new slice. -/
def preFrz (O : List Nat) (o : AOper) (s : St) : List Nat :=
  match o.op, o.guard with
  | .buildSlice _ _ parts, none => if O.contains (o.dst.getD 0) then [] else ownIds s.mem (AV.refsL (parts.toList.map fun p => st (ev s.env p.2)))
  | _, _ => []
theorem preFrz_none {O : List Nat} {o : AOper} {s : St} (h : isBS o.op = false) : preFrz O o s = [] := by
  unfold preFrz
  split
  · rename_i h2 _; rw [h2] at h; cases h
  · rfl
theorem preFrz_guard {O : List Nat} {o : AOper} {s : St} {g : Nat × Bool} (h : o.guard = some g) : preFrz O o s = [] := by
  unfold preFrz
  split
  · rename_i h2; rw [h] at h2; cases h2
  · rfl

def vcOps (P : Program) (T : TT) (O : List Nat) : List AOper → (St → Prop) → St → Prop
  | [], K, s => K s
  | o :: l, K, s => match isNilCmp o.op, o.guard with
    | some (x, t, pos), none => PreK (nilOK T t = true ∧ nilArg s.mem (st (ev s.env x)) ∧ sg (ev s.env x)) (NilK (nilOf (st (ev s.env x))) fun b => vcOps P T O l K (s.app o.dst (.raw (.bool (b == pos))) []))
    | _, _ => match isCall o.op, o.guard with
      | some (f, ts, xs), none => match tgt (st (ev s.env f)) (nrmL T ts (xs.map fun x => st (ev s.env x))) with
        | some (g, as) => PreK (firms s.env (firm o.op)) (CallX P s o.dst g as fun s' r up => vcOps P T O l K (s'.app o.dst r up))
        | none => False
      | some (f, ts, xs), some (g0, want) => match guardOf (get s.env g0) want with
        | some c => match tgt (st (ev s.env f)) (nrmL T ts (xs.map fun x => st (ev s.env x))) with
          | some (g, as) => PreK (c = true → firms s.env (firm o.op)) (CallG P c g (snapL s.mem as) (snapOKL s.mem as) (AV.refsL as).isEmpty (fun r => vcOps P T O l K (s.app o.dst (.maybe c r) [])) (c = true ∧ CallX P s o.dst g as fun s' r up => vcOps P T O l K (s'.app o.dst r up)))
          | none => False
        | none => False
      | _, _ => match capArg o.op, o.guard with
        | some (x, t), none => CapG T s.mem t (sg (ev s.env x)) (st (ev s.env x)) (fun c => vcOps P T O l K (s.app o.dst (.raw (.int .i64 (c : Int))) [])) (vcOp P T O o s (vcOps P T O l K))
        | _, _ => frzs (preFrz O o s) (fun s' => vcOp P T O o s' (vcOps P T O l K)) s

def upKeys (T : TT) (O : List Nat) (o : AOper) (s : St) : List Nat :=
  match isCall o.op with
  | some _ => []
  | none => match o.guard with
    | none => (opE T O s.mem (o.dst.getD 0) o.ty s.env o.op).up.map (·.1)
    | some (g, w) => if guardOf (get s.env g) w = some false then [] else (opE T O s.mem (o.dst.getD 0) o.ty s.env o.op).up.map (·.1)

def vcDraw (P : Program) (T : TT) (O : List Nat) : List AOper → (List (List Nat × List Nat) → St → Prop) → List (List Nat × List Nat) → St → Prop
  | [], K, acc, s => K acc s
  | o :: l, K, acc, s => match isCall o.op, o.guard with
    | some (f, ts, xs), none => match tgt (st (ev s.env f)) (nrmL T ts (xs.map fun x => st (ev s.env x))) with
      | some (g, as) => PreK (firms s.env (firm o.op)) (CallK P s.mem o.dst as (idsOf o s.env) g (snapL s.mem as) (snapOKL s.mem as) (AV.refsL as).isEmpty fun r up F => vcDraw P T O l K (acc ++ [(F, up.map (·.1))]) (s.app o.dst r up))
      | none => False
    | _, _ => vcOp P T O o s (vcDraw P T O l K (acc ++ [(idsOf o s.env, upKeys T O o s)]))

def thenQ (K : St → Prop) (Q : AExit → St → Prop) : AExit → St → Prop
  | .normal, s => K s
  | .exit id, s => Q (.exit id) s
  | .ret, s => Q .ret s

def blockQ (id : Nat) (Q : AExit → St → Prop) : AExit → St → Prop
  | .normal, s => Q .normal s
  | .exit id', s => if id' = id then Q .normal s else Q (.exit id') s
  | .ret, s => Q .ret s

def LoopK (F : (AExit → St → Prop) → St → Prop) (Q : AExit → St → Prop) (s : St) (_t : Tag F := ()) (_u : Tag Q := ()) : Prop :=
  ∃ ids, frzs ids (fun s0 => ∃ (ι : Type) (I : ι → St) (m : ι → Nat), (∃ i, le s0 (I i)) ∧ ∀ i, F (thenQ (fun s' => ∃ ids, frzs ids (fun s1 => ∃ rs, rens rs (fun s'' => ∃ j, le s'' (I j) ∧ m j < m i) s1) s') Q) (I i)) s

def vc (P : Program) (T : TT) (O : List Nat) : ACode → (AExit → St → Prop) → St → Prop
  | .skip, Q, s => Q .normal s
  | .reg gs ops, Q, s => frzs gs (vcOps P T O ops (Q .normal)) s
  | .draw gs ops pairs, Q, s => frzs gs (vcDraw P T O ops (fun acc s' => PreK (apartAll acc pairs = true) (Q .normal s')) []) s
  | .seq a b, Q, s => vc P T O a (thenQ (vc P T O b Q) Q) s
  | .cond c a b, Q, s => CondK (ev s.env c) (vc P T O a Q s) (vc P T O b Q s)
  | .block id b, Q, s => vc P T O b (blockQ id Q) s
  | .loop b, Q, s => LoopK (vc P T O b) Q s
  | .exit id, Q, s => Q (.exit id) s
  | .ret, Q, s => Q .ret s

end Go.Abs
end

section
/- The value layer, part 22: it is enough. -/
namespace Go.Abs

section
variable {P : Program} {T : TT} (hT : TOK P T) {O : List Nat}

theorem isCall_some {op : Op} {f : Operand} {ts : List Nat} {xs : List Operand} (h : isCall op = some (f, ts, xs)) : ∃ args tys, op = .call ⟨.value f, args, tys⟩ ∧ tys.toList = ts ∧ args.toList = xs := by
  unfold isCall at h
  split at h
  · cases h; exact ⟨_, _, rfl, rfl, rfl⟩
  · cases h

theorem stepOK_other {o : AOper} (h : isCall o.op = none) {e : List (Nat × AV)} {m : List (Nat × Option Box)} (hp : (opE T O m (o.dst.getD 0) o.ty e o.op).pre) (hf : firms e (firm o.op)) :
    StepOK P T O o e m (opE T O m (o.dst.getD 0) o.ty e o.op).val (opE T O m (o.dst.getD 0) o.ty e o.op).up := by
  refine ⟨hf, ?_⟩
  obtain ⟨dst, op, ty, guard⟩ := o
  cases op with
  | call c =>
    obtain ⟨callee, args, ts⟩ := c
    cases callee with
    | value f => simp [isCall] at h
    | _ => exact ⟨hp, rfl, rfl⟩
  | _ => exact ⟨hp, rfl, rfl⟩

theorem stepOK_call {o : AOper} {f : Operand} {ts : List Nat} {xs : List Operand} (h : isCall o.op = some (f, ts, xs)) {e : List (Nat × AV)} {m : List (Nat × Option Box)} {g : FuncId} {as : List AV}
    (ht : tgt (st (ev e f)) (nrmL T ts (xs.map fun x => st (ev e x))) = some (g, as)) (hf : firms e (firm o.op)) {r : AV} (hc : CallP P g (snapL m as) r) (hsn : snapOKL m as) (hfl : (AV.refsL as).isEmpty = true ∨ flat r = true) :
    StepOK P T O o e m r [] := by
  refine ⟨hf, ?_⟩
  obtain ⟨dst, op, ty, guard⟩ := o
  obtain ⟨args, tys, rfl, rfl, rfl⟩ := isCall_some h
  refine ⟨?_, rfl⟩
  unfold CallOK
  rw [ht]
  exact ⟨hc, hsn, (by rcases hfl with h | h; exact .inl (List.isEmpty_iff.1 h); exact .inr h)⟩

theorem vcOp_steps {o : AOper} {s : St} {K : St → Prop} (h : vcOp P T O o s K) : ∃ v up, Steps P T O o s.env s.mem v up ∧ up.map (·.1) = upKeys T O o s ∧ K (s.app o.dst v up) := by
  unfold vcOp at h
  unfold Steps upKeys
  cases hg : o.guard with
  | none =>
    rw [hg] at h
    simp only at h ⊢
    unfold vcStep at h
    cases hc : isCall o.op with
    | none =>
      rw [hc] at h
      obtain ⟨⟨hp, hf⟩, hk⟩ := h
      exact ⟨_, _, stepOK_other hc hp hf, rfl, hk⟩
    | some x =>
      obtain ⟨f, ts, xs⟩ := x
      rw [hc] at h
      simp only at h
      cases ht : tgt (st (ev s.env f)) (nrmL T ts (xs.map fun x => st (ev s.env x))) with
      | none => rw [ht] at h; exact h.elim
      | some ga =>
        obtain ⟨g, as⟩ := ga
        rw [ht] at h
        obtain ⟨hf, r, hcall, hsn, hfl, hk⟩ := h
        exact ⟨r, [], stepOK_call hc ht hf hcall hsn hfl, rfl, hk⟩
  | some gw =>
    obtain ⟨g, want⟩ := gw
    rw [hg] at h
    simp only at h ⊢
    cases hgo : guardOf (get s.env g) want with
    | none => rw [hgo] at h; exact h.elim
    | some c =>
      rw [hgo] at h
      simp only at h ⊢
      unfold vcGuard at h
      cases hc : isCall o.op with
      | none =>
        rw [hc] at h
        obtain ⟨hp, hk⟩ := h
        cases c with
        | true =>
          simp only [Bool.true_eq_false, if_false] at hk
          exact ⟨_, _, ⟨_, rfl, fun hcc => stepOK_other hc (hp hcc).1 (hp hcc).2, .inl rfl⟩, by simp, hk⟩
        | false =>
          simp only [if_true] at hk
          exact ⟨_, [], ⟨_, rfl, fun hcc => (by cases hcc), .inr rfl⟩, by simp, hk⟩
      | some x =>
        obtain ⟨f, ts, xs⟩ := x
        rw [hc] at h
        simp only at h
        cases ht : tgt (st (ev s.env f)) (nrmL T ts (xs.map fun x => st (ev s.env x))) with
        | none => rw [ht] at h; exact h.elim
        | some ga =>
          obtain ⟨g', as⟩ := ga
          rw [ht] at h
          obtain ⟨hf, ⟨r, hcall, hk⟩ | h⟩ := h
          case inr => exact h.elim
          exact ⟨_, [], ⟨r, rfl, fun hcc => stepOK_call hc ht (hf hcc) (hcall hcc).1 (hcall hcc).2.1 (hcall hcc).2.2, .inr rfl⟩, rfl, hk⟩

theorem vcDraw_runs {K : List (List Nat × List Nat) → St → Prop} : ∀ {l : List AOper} {acc : List (List Nat × List Nat)} {s : St}, vcDraw P T O l K acc s → Runs P T O l s acc K
  | [], _, _, h => h
  | o :: l, acc, s, h => by
    have plain : vcOp P T O o s (vcDraw P T O l K (acc ++ [(idsOf o s.env, upKeys T O o s)])) → Runs P T O (o :: l) s acc K := by
      intro h
      obtain ⟨v, up, hs, hk, hr⟩ := vcOp_steps h
      refine ⟨v, up, idsOf o s.env, .inl ⟨hs, rfl⟩, ?_⟩
      rw [hk]
      exact vcDraw_runs hr
    simp only [vcDraw] at h
    split at h
    · rename_i f ts xs hc hg
      split at h
      · rename_i g as ht
        obtain ⟨hf, h⟩ := h
        rcases h with ⟨r, h1, h2, h3, h4⟩ | ⟨σ, r, m', h1, h2, h3⟩ | ⟨d, sz, els, h0, h1, h2, h3⟩ | ⟨ex, v, up, h2, h3⟩
        · refine ⟨r, [], idsOf o s.env, .inl ⟨?_, rfl⟩, vcDraw_runs (by simpa using h4)⟩
          unfold Steps
          rw [hg]
          exact stepOK_call hc ht hf h1 h2 h3
        · refine ⟨_, _, _, .inr ?_, vcDraw_runs h3⟩
          obtain ⟨args, tys, ho, rfl, rfl⟩ := isCall_some hc
          exact ⟨hg, hf, f, args, tys, ho, g, as, ht, .inl ⟨σ, r, m', h1, rfl, h2, rfl, rfl⟩⟩
        · refine ⟨_, _, _, .inr ?_, vcDraw_runs h3⟩
          obtain ⟨args, tys, ho, rfl, rfl⟩ := isCall_some hc
          exact ⟨hg, hf, f, args, tys, ho, g, as, ht, .inr (.inl ⟨d, sz, els, h0, rfl, h1, h2, rfl, rfl⟩)⟩
        · refine ⟨_, _, _, .inr ?_, vcDraw_runs h3⟩
          obtain ⟨args, tys, ho, rfl, rfl⟩ := isCall_some hc
          exact ⟨hg, hf, f, args, tys, ho, g, as, ht, .inr (.inr h2)⟩
      · exact h.elim
    · exact plain h

theorem frzs_rel {B : Base} {w : World} {a : Act} {K : St → Prop} : ∀ {gs : List Nat} {s : St}, frzs gs K s → Rel B w a s → ∃ s', K s' ∧ Rel B w a s'
  | [], s, h, hr => ⟨s, h, hr⟩
  | id :: gs, s, h, hr => by
    simp only [frzs] at h
    cases hf : find s.mem id with
    | none => rw [hf] at h; exact h.elim
    | some b =>
      rw [hf] at h
      exact frzs_rel h.2 (frz_rel hr hf h.1)

omit hT in
theorem run_equalIn_nil {t e : Nat} (hu : P.underlying t = some (.slice e)) (d : Nat) (p : Option Addr) (n cap : Nat) (w : World) : (Op.equalIn (d + 1) t (.slice p n cap) (.slice none 0 0)).run P w = .ok p.isNone w := by
  cases p <;> simp [Op.equalIn, run_underlying hu]

include hT in
/-- A comparison with nil. -/
theorem nil_cmp {B : Base} {w : World} {a : Act} {s : St} {o : Oper} {x : Operand} {t : Nat} {pos : Bool} (hrel : Rel B w a s) (ho : isNilCmp o.op = some (x, t, pos)) (h1 : nilOK T t = true) (h2 : nilArg s.mem (st (ev s.env x))) (h3 : sg (ev s.env x)) :
    ∃ b, nilOf (st (ev s.env x)) b ∧ (execOp a.eval o).run P w = .ok (.value (.bool (b == pos))) w := by
  obtain ⟨μ, h⟩ := hrel
  have hr := rep_st (rep_ev h x) h3
  have hv : ∃ p n cap, a.eval x = .slice p n cap ∧ nilOf (st (ev s.env x)) p.isNone := by
    generalize a.eval x = v at hr
    generalize st (ev s.env x) = y at hr h2
    cases hr with
    | nil => exact ⟨_, _, _, rfl, fun _ => rfl⟩
    | seq => exact ⟨_, _, _, rfl, fun h => by cases h⟩
    | slNil hm hv hnf => exact ⟨_, _, _, rfl, fun _ => rfl⟩
    | sl hm hv hb hc hfit hz => exact ⟨_, _, _, rfl, fun h => by cases h⟩
    | slOld hm hv =>
      obtain ⟨b, hb, hbv⟩ := h2
      obtain ⟨l, hm', hlv, _⟩ := h.inv.box _ b hb
      rw [hm] at hm'; cases hm'
      omega
    | @raw _ v hv =>
      unfold nilArg at h2
      split at h2
      · rename_i e; cases e
      · rename_i e; cases e
      · rename_i e
        cases e
        exact ⟨_, _, _, rfl, rfl⟩
      · exact h2.elim
    | _ => exact h2.elim
  obtain ⟨p, n, cap, hx, hn⟩ := hv
  refine ⟨p.isNone, hn, ?_⟩
  have hu : ∃ e, P.underlying t = some (.slice e) := by
    unfold nilOK at h1
    split at h1
    · rename_i e hk
      obtain ⟨ti, ht⟩ := Option.isSome_iff_exists.1 h1
      obtain ⟨d, hd, hdesc⟩ := (hT t ti ht).desc
      have hkk : tkind T t = ti.kind := by simp [tkind, ht]
      rw [← hkk, hk] at hdesc
      simp only [TK.desc] at hdesc
      subst hdesc
      exact ⟨e, hd⟩
    · cases h1
  obtain ⟨e, hu⟩ := hu
  have heq : (Op.equal t (.slice p n cap) (.slice none 0 0)).run P w = .ok p.isNone w := run_equalIn_nil hu 9999 p n cap w
  unfold isNilCmp at ho
  split at ho
  · rename_i t' x' _ hop
    simp only [Option.some.injEq, Prod.mk.injEq] at ho
    obtain ⟨rfl, rfl, rfl⟩ := ho
    have hc : a.eval (.const (.slice none 0 0)) = .slice none 0 0 := rfl
    simp [execOp, hop, hx, hc, eqGuard, binOp, heq]
  · rename_i t' x' _ hop
    simp only [Option.some.injEq, Prod.mk.injEq] at ho
    obtain ⟨rfl, rfl, rfl⟩ := ho
    have hc : a.eval (.const (.slice none 0 0)) = .slice none 0 0 := rfl
    simp [execOp, hop, hx, hc, eqGuard, binOp, heq]
  · cases ho

include hT in
/-- The capacity of an own slice. -/
theorem cap_run {B : Base} {w : World} {a : Act} {s : St} {o : Oper} {x : Operand} {t : Nat} (hrel : Rel B w a s) (ho : capArg o.op = some (x, t)) (h1 : tknown T t) (h2 : isSlT (tkind T t) = true) (h3 : sg (ev s.env x)) {id ver off len : Nat}
    (hy : st (ev s.env x) = .sl id ver off len) (h4 : match find s.mem id with | some b => b.ver = ver | none => False) : ∃ c : Nat, len ≤ c ∧ (execOp a.eval o).run P w = .ok (.value (.int .i64 (c : Int))) w := by
  obtain ⟨μ, h⟩ := hrel
  have hr := rep_st (rep_ev h x) h3
  rw [hy] at hr
  have hv : ∃ p n cap, a.eval x = .slice p n cap ∧ len ≤ cap := by
    generalize a.eval x = v at hr
    cases hr with
    | slNil hm hv hnf => exact ⟨_, _, _, rfl, Nat.le_refl _⟩
    | sl hm hv hbk hc hfit hz => exact ⟨_, _, _, rfl, hc⟩
    | slOld hm hv =>
      split at h4
      · rename_i b hb
        obtain ⟨l, hm', hlv, _⟩ := h.inv.box id b hb
        rw [hm] at hm'; cases hm'
        omega
      · exact h4.elim
  obtain ⟨p, n, cap, hx, hc⟩ := hv
  obtain ⟨ti, ht, _, hkk, _⟩ := tknown_some h1
  obtain ⟨d, hd, hdesc⟩ := (hT t ti ht).desc
  have hsl : ∃ e, tkind T t = .slice e := by
    unfold isSlT at h2
    split at h2
    · rename_i e he; exact ⟨e, he⟩
    · cases h2
  obtain ⟨e, he⟩ := hsl
  rw [hkk] at he
  rw [he] at hdesc
  simp only [TK.desc] at hdesc
  subst hdesc
  refine ⟨cap, hc, ?_⟩
  unfold capArg at ho
  split at ho
  · rename_i x' t' hop
    simp only [Option.some.injEq, Prod.mk.injEq] at ho
    obtain ⟨rfl, rfl⟩ := ho
    simp [execOp, hop, resolve, invoke, builtin, hx, Builtin.cap_, run_underlying hd, goInt]
  · cases ho

omit hT in
theorem ev_frz {s : St} {id : Nat} {b : Box} (x : Operand) : ev (frzSt s id b).env x = frzA b id (ev s.env x) := by
  cases x with
  | tmp t => exact get_map (f := frzA b id) (by simp only [frzA]) t s.env
  | const v => simp only [ev]; unfold cv; split <;> simp only [frzA]
  | global g => simp only [ev, frzA]
  | func f => simp only [ev, frzA, frzL]
omit hT in
theorem st_frz {id : Nat} {b : Box} (a : AV) : st (frzA b id a) = frzA b id (st a) := by
  cases a with
  | maybe g a => simp only [frzA, st]
  | sl i ver off len =>
    show st (frzA b id (.sl i ver off len)) = frzA b id (.sl i ver off len)
    simp only [frzA]
    by_cases h : i = id
    · rw [if_pos h]; by_cases h2 : ver = b.ver ∧ off + len ≤ b.els.length
      · rw [if_pos h2]; rfl
      · rw [if_neg h2]; rfl
    · rw [if_neg h]; rfl
  | pt i ver idx o =>
    show st (frzA b id (.pt i ver idx o)) = frzA b id (.pt i ver idx o)
    simp only [frzA]
    by_cases h : i = id
    · rw [if_pos h]; by_cases h2 : ver = b.ver ∧ idx < b.els.length
      · rw [if_pos h2]; rfl
      · rw [if_neg h2]; rfl
    · rw [if_neg h]; rfl
  | mp i ver =>
    show st (frzA b id (.mp i ver)) = frzA b id (.mp i ver)
    simp only [frzA]
    by_cases h : i = id
    · rw [if_pos h]; by_cases h2 : ver = b.ver
      · rw [if_pos h2]; rfl
      · rw [if_neg h2]; rfl
    · rw [if_neg h]; rfl
  | _ => simp only [frzA, st]
omit hT in
theorem sg_frz {id : Nat} {b : Box} (a : AV) (h : sg a) : sg (frzA b id a) := by
  cases a with
  | maybe g a => simpa only [frzA, sg] using h
  | sl i ver off len => simp only [frzA]; split <;> (try split) <;> trivial
  | pt i ver idx o => simp only [frzA]; split <;> (try split) <;> trivial
  | mp i ver => simp only [frzA]; split <;> (try split) <;> trivial
  | _ => simp only [frzA, sg]
omit hT in
theorem firms_frz {s : St} {id : Nat} {b : Box} : ∀ {l : List Operand}, firms s.env l → firms (frzSt s id b).env l
  | [], _ => trivial
  | x :: l, h => ⟨by rw [ev_frz]; exact sg_frz _ h.1, firms_frz h.2⟩
omit hT in
theorem nrm_raw {t : Nat} (a : AV) (h : ∀ v, a ≠ .raw v) : nrm T t a = a := by
  unfold nrm
  split
  · exact absurd rfl (h _)
  · rfl
omit hT in
theorem nrm_frz {id t : Nat} {b : Box} (a : AV) : nrm T t (frzA b id a) = frzA b id (nrm T t a) := by
  by_cases h : ∃ v, a = .raw v
  · obtain ⟨v, rfl⟩ := h
    have e : frzA b id (.raw v) = .raw v := by simp only [frzA]
    rw [e]
    unfold nrm
    split
    · simp only [frzA]
    · simp only [frzA]
  · have h1 : ∀ v, a ≠ .raw v := fun v e => h ⟨v, e⟩
    have h2 : ∀ v, frzA b id a ≠ .raw v := by
      intro v e
      cases a with
      | raw u => exact h1 u rfl
      | sl i ver off len => simp only [frzA] at e; split at e <;> (try split at e) <;> cases e
      | pt i ver idx o => simp only [frzA] at e; split at e <;> (try split at e) <;> cases e
      | mp i ver => simp only [frzA] at e; split at e <;> (try split at e) <;> cases e
      | _ => simp only [frzA] at e; cases e
    rw [nrm_raw _ h1, nrm_raw _ h2]
omit hT in
theorem nrmL_frz {id : Nat} {b : Box} : ∀ {ts : List Nat} {l : List AV}, nrmL T ts (frzL b id l) = frzL b id (nrmL T ts l)
  | [], l => by simp only [nrmL]
  | t :: ts, [] => by simp only [frzL, nrmL]
  | t :: ts, x :: l => by simp only [frzL, nrmL, nrm_frz, nrmL_frz (ts := ts) (l := l)]
omit hT in
theorem frzL_append {id : Nat} {b : Box} : ∀ l m : List AV, frzL b id (l ++ m) = frzL b id l ++ frzL b id m
  | [], m => by simp only [frzL, List.nil_append]
  | x :: l, m => by simp only [List.cons_append, frzL, frzL_append l m]
omit hT in
theorem frzL_map {id : Nat} {b : Box} {s : St} : ∀ xs : List Operand, (xs.map fun x => st (ev (frzSt s id b).env x)) = frzL b id (xs.map fun x => st (ev s.env x))
  | [] => by simp only [List.map_nil, frzL]
  | x :: xs => by rw [List.map_cons, List.map_cons, frzL, frzL_map xs, ev_frz, st_frz]
omit hT in
theorem tgt_frz {id : Nat} {b : Box} {a : AV} {l as : List AV} {g : FuncId} (h : tgt a l = some (g, as)) : tgt (frzA b id a) (frzL b id l) = some (g, frzL b id as) := by
  unfold tgt at h
  split at h
  · cases h
    simp only [frzA, tgt, frzL_append]
  · cases h
omit hT in
theorem frzC_rel {B : Base} {w : World} {a : Act} {f : Operand} {ts : List Nat} {xs ys : List Operand} {g : FuncId} {K : St → List AV → Prop} : ∀ {ids : List Nat} {s : St} {as : List AV}, Rel B w a s → firms s.env ys →
    tgt (st (ev s.env f)) (nrmL T ts (xs.map fun x => st (ev s.env x))) = some (g, as) → frzC ids as K s →
    ∃ s' as', Rel B w a s' ∧ firms s'.env ys ∧ tgt (st (ev s'.env f)) (nrmL T ts (xs.map fun x => st (ev s'.env x))) = some (g, as') ∧ K s' as'
  | [], s, as, hr, hf, ht, h => ⟨s, as, hr, hf, ht, h⟩
  | id :: ids, s, as, hr, hf, ht, h => by
    simp only [frzC] at h
    cases hb : find s.mem id with
    | none => rw [hb] at h; exact h.elim
    | some b =>
      rw [hb] at h
      refine frzC_rel (frz_rel hr hb h.1) (firms_frz hf) ?_ h.2
      rw [frzL_map, nrmL_frz, ev_frz, st_frz]
      exact tgt_frz ht

include hT in
/-- A region in the text's order. -/
theorem vcOps_sound {B : Base} {ops : Array Oper} {Q : Exit → Act → World → Prop} {K : St → Prop} (hQ : ∀ a w s, Rel B w a s → K s → Q .normal a w) :
    ∀ (l : List AOper) (k : Nat) (s : St) (a : Act) (w : World), (∀ i x, l[i]? = some x → ∃ o, ops[k + i]? = some o ∧ aoper ops o = some x) → k + l.length = ops.size → (∀ x ∈ l, ∀ t, x.dst = some t → t < B.N) →
      vcOps P T O l K s → Rel B w a s → wpOps P ops Q ((List.range l.length).map (k + ·)) a w
  | [], k, s, a, w, _, _, _, h, hr => by simpa [wpOps] using hQ a w s hr h
  | x :: l, k, s, a, w, hl, hlen, hd, h, hr => by
    obtain ⟨o, ho, hao⟩ := hl 0 x rfl
    simp only [Nat.add_zero] at ho
    have hrest : (List.range (l.length + 1)).map (k + ·) = k :: (List.range l.length).map (k + 1 + ·) := by
      rw [List.range_succ_eq_map, List.map_cons, List.map_map]
      simp only [Nat.add_zero, List.cons.injEq, true_and]
      apply List.map_congr_left
      intro j _
      simp only [Function.comp]
      omega
    rw [List.length_cons, hrest, wpOps_cons]
    have hdo := aoper_dst hao
    have hgo : ∀ s' a' w', vcOps P T O l K s' → Rel B w' a' s' → wpOps P ops Q ((List.range l.length).map (k + 1 + ·)) a' w' := fun s' a' w' h' hr' =>
      vcOps_sound hQ l (k + 1) s' a' w' (fun i y hy => by
        obtain ⟨o', h1, h2⟩ := hl (i + 1) y (by simpa using hy)
        exact ⟨o', by rw [Nat.add_assoc, Nat.add_comm 1 i]; exact h1, h2⟩) (by simp at hlen; omega) (fun y hy => hd y (by simp [hy])) h' hr'
    have hplain : ∀ s, Rel B w a s → vcOp P T O x s (vcOps P T O l K) → wpOp P ops Q k (wpOps P ops Q ((List.range l.length).map (k + 1 + ·))) a w := by
      intro s hr h
      obtain ⟨v, up, hs, _, hk⟩ := vcOp_steps h
      exact steps_wpOp hT ho hao (fun t ht => hd x (by simp) t (by rw [hdo]; exact ht)) hr hs fun w' a' hr' => hgo _ _ _ (by rw [hdo] at hk; exact hk) hr'
    have hcallX : ∀ {f : Operand} {ts : List Nat} {xs : List Operand} {g : FuncId} {as0 : List AV}, isCall x.op = some (f, ts, xs) → x.op = o.op → Region.wanted o (yielded ops a.tmps) = true → tgt (st (ev s.env f)) (nrmL T ts (xs.map fun x => st (ev s.env x))) = some (g, as0) → firms s.env (firm x.op) →
        CallX P s x.dst g as0 (fun s' r up => vcOps P T O l K (s'.app x.dst r up)) → wpOp P ops Q k (wpOps P ops Q ((List.range l.length).map (k + 1 + ·))) a w := by
      intro f ts xs g as0 hcall hop hwant htgt0 hf0 hx
      obtain ⟨ids, hx⟩ := hx
      obtain ⟨s1, as, hr, hf, htgt, hx⟩ := frzC_rel hr hf0 htgt0 hx
      rw [hop] at hcall hf
      unfold wpOp
      rw [ho]
      simp only [hwant, if_true]
      left
      rcases hx with ⟨r, h1, h2, h3, h4⟩ | hx
      · refine stepOK_wp (O := O) (g := none) hT hr (stepOK_call (O := O) (o := ⟨o.dst, o.op, o.type, none⟩) hcall htgt hf h1 h2 h3) fun w' v' μ' hrel' hrep => hgo _ _ _ h4 ⟨μ', ?_⟩
        rw [← hdo]
        exact hrel'.app (fun t ht => hd x (by simp) t ht) hrep
      · obtain ⟨args, tys, hopc, rfl, rfl⟩ := isCall_some hcall
        rcases hx with ⟨d', sz, els, hd', h1, h2, h3, h4⟩ | ⟨d', sz, els, hd', h1, h2, h4⟩ | ⟨pre, id, ver, n, suf, b, r, els', rfl, hb, hbv, hbr, hn, h1, h2, h3, h4⟩ | ⟨σ, r, m', hσ, h1, h4⟩ | ⟨d', sz, els, u, hd', h1, h2, h4⟩ | ⟨k', r, m', h1, h2, h3, h5, h4⟩ | ⟨r, h1, h2, h3, h4⟩ | ⟨d', sz, els, u, hd', h1, h2, h3, h4⟩
        · refine own_wp hr hopc hf htgt h1 h2 h3 (hd x (by simp) d' hd') (hdo ▸ hd') fun a' w' hr' => ?_
          rw [hd'] at h4
          exact hgo _ _ _ h4 hr'
        · refine own_wp' hr hopc hf htgt h1 h2 (hd x (by simp) d' hd') (hdo ▸ hd') fun a' w' hr' => ?_
          rw [hd'] at h4
          exact hgo _ _ _ h4 hr'
        · refine lent_wp hr hopc hf htgt hb hbv hbr hn h1 h2 h3 (fun t ht => hd x (by simp) t (by rw [hdo]; exact ht)) fun a' w' hr' => ?_
          rw [hdo] at h4
          exact hgo _ _ _ h4 hr'
        · refine boxes_wp hr hopc hf htgt σ hσ h1 (fun t ht => hd x (by simp) t (by rw [hdo]; exact ht)) fun a' w' hr' => ?_
          rw [hdo] at h4
          exact hgo _ _ _ h4 hr'
        · refine own_wpT hr hopc hf htgt h1 h2 (hd x (by simp) d' hd') (hdo ▸ hd') fun a' w' hr' => ?_
          rw [hd'] at h4
          exact hgo _ _ _ h4 hr'
        · refine mem_wp hr hopc hf htgt k' h1 h2 h3 h5 (fun t ht => hd x (by simp) t (by rw [hdo]; exact ht)) fun a' w' hr' => ?_
          rw [hdo] at h4
          exact hgo _ _ _ h4 hr'
        · refine deep_wp hr hopc hf htgt h1 h2 h3 (fun t ht => hd x (by simp) t (by rw [hdo]; exact ht)) fun a' w' hr' => ?_
          rw [hdo] at h4
          exact hgo _ _ _ h4 hr'
        · refine deep_wpT hr hopc hf htgt h1 h2 h3 (hd x (by simp) d' hd') (hdo ▸ hd') fun a' w' hr' => ?_
          rw [hd'] at h4
          exact hgo _ _ _ h4 hr'
    simp only [vcOps] at h
    split at h
    · rename_i y t pos hn hg
      obtain ⟨⟨h1, h2, h3⟩, hk⟩ := h
      have hop : x.op = o.op := by
        unfold aoper at hao
        split at hao
        · cases hao; rfl
        · split at hao
          · cases hao; rfl
          · cases hao
      have hgo' : o.guard = none := by
        unfold aoper at hao
        split at hao
        · rename_i hgg; exact hgg
        · split at hao
          · cases hao; cases hg
          · cases hao
      rw [hop] at hn
      obtain ⟨b, hb, hrun⟩ := nil_cmp (o := o) hT hr hn h1 h2 h3
      unfold wpOp
      rw [ho]
      simp only [Region.wanted, hgo', if_true]
      left
      unfold Oper.wp
      rw [hrun]
      obtain ⟨μ, hr⟩ := hr
      refine hgo _ _ _ (hk b hb) ⟨μ, ?_⟩
      rw [← hdo]
      exact RelM.app (up := []) hr (fun t ht => hd x (by simp) t ht) (.raw rfl)
    · split at h
      · rename_i f ts xs hcall hg
        have hop : x.op = o.op := by
          unfold aoper at hao
          split at hao
          · cases hao; rfl
          · split at hao
            · cases hao; rfl
            · cases hao
        have hgo' : o.guard = none := by
          unfold aoper at hao
          split at hao
          · rename_i hgg; exact hgg
          · split at hao
            · cases hao; cases hg
            · cases hao
        split at h
        · rename_i g as0 htgt0
          obtain ⟨hf0, hx⟩ := h
          exact hcallX hcall hop (by simp [Region.wanted, hgo']) htgt0 hf0 hx
        · exact h.elim
      · rename_i f ts xs g0 want hcall hg
        have hao2 : x.op = o.op ∧ ∃ j, o.guard = some (j, want) ∧ (ops[j]?).bind (·.dst) = some g0 := by
          unfold aoper at hao
          split at hao
          · cases hao; cases hg
          · rename_i j want' hgg
            split at hao
            · rename_i t ht
              cases hao
              simp only [Option.some.injEq, Prod.mk.injEq] at hg
              obtain ⟨rfl, rfl⟩ := hg
              exact ⟨rfl, j, hgg, ht⟩
            · cases hao
        obtain ⟨hop, j, hgj, hdj⟩ := hao2
        split at h
        · rename_i c hc
          split at h
          · rename_i g as0 htgt0
            obtain ⟨hf0, h | ⟨rfl, hx⟩⟩ := h
            · refine hplain s hr ?_
              unfold vcOp
              rw [hg]
              simp only [hc]
              unfold vcGuard
              simp only [hcall, htgt0]
              exact ⟨hf0, .inl h⟩
            · obtain ⟨μ, hrm⟩ := hr
              have hy := yielded_guard hdj hrm hc
              refine hcallX hcall hop ?_ htgt0 (hf0 rfl) hx
              unfold Region.wanted
              rw [hgj]
              exact hy
          · exact h.elim
        · exact h.elim
      · split at h
        · rename_i y t hcap hg
          have hop : x.op = o.op := by
            unfold aoper at hao
            split at hao
            · cases hao; rfl
            · split at hao
              · cases hao; rfl
              · cases hao
          have hgo' : o.guard = none := by
            unfold aoper at hao
            split at hao
            · rename_i hgg; exact hgg
            · split at hao
              · cases hao; cases hg
              · cases hao
          unfold CapG at h
          split at h
          · rename_i id ver off len hy
            obtain ⟨⟨⟨h1, h2⟩, h3, h4⟩, hk⟩ := h
            rw [hop] at hcap
            obtain ⟨c, hc, hrun⟩ := cap_run (o := o) hT hr hcap h1 h2 h3 hy h4
            unfold wpOp
            rw [ho]
            simp only [Region.wanted, hgo', if_true]
            left
            unfold Oper.wp
            rw [hrun]
            obtain ⟨μ, hr⟩ := hr
            refine hgo _ _ _ (hk c hc) ⟨μ, ?_⟩
            rw [← hdo]
            exact RelM.app (up := []) hr (fun t ht => hd x (by simp) t ht) (.raw rfl)
          · exact hplain s hr h
        · obtain ⟨s', h', hr'⟩ := frzs_rel h hr
          exact hplain s' hr' h'

end
end Go.Abs
end

section
/- The value layer, part 23: drawn regions, code, functions. -/
namespace Go.Abs

section
variable {P : Program} {T : TT} (hT : TOK P T) {O : List Nat}

/-- What is left of a state by code. -/
def post (B : Base) (Q : AExit → St → Prop) : Exit → Act → World → Prop
  | .normal, a, w => ∃ s, Rel B w a s ∧ Q .normal s
  | .exit id, a, w => ∃ s, Rel B w a s ∧ Q (.exit id) s
  | .ret, a, w => ∃ s, Rel B w a s ∧ Q .ret s
  | _, _, _ => False

theorem rep_false (n i : Nat) : (Array.replicate n false).getD i false = false := by
  rw [Array.getD_eq_getD_getElem?, Array.getElem?_replicate]
  split <;> rfl

theorem Rel.drew {B : Base} {w : World} {a : Act} {s : St} (h : Rel B w a s) : Rel B { w with drawn := w.drawn + 1 } a s := by
  obtain ⟨μ, h⟩ := h
  exact ⟨μ, h.grows (Grows.drew w)⟩

theorem edges_close {ops : Array Oper} (hedge : ∀ i o, ops[i]? = some o → ∀ e ∈ o.after, Region.binds .any e = true → e.on < i) (D : Nat → Bool)
    (hD : ∀ i o, ops[i]? = some o → D i = true → ∀ e ∈ o.after, Region.binds .any e = true → D e.on = true) {E : Nat → List Nat} (hE : ∀ i, E i = match ops[i]? with | some o => edgesOf o | none => []) :
    ∀ {i j : Nat}, Anc E i j → ∀ o, ops[i]? = some o → (∀ e ∈ o.after, Region.binds .any e = true → D e.on = true) → D j = true := by
  intro i j h
  induction h with
  | edge h =>
    intro o ho hed
    rw [hE, ho] at h
    simp only [edgesOf, List.mem_map, List.mem_filter] at h
    obtain ⟨e, ⟨he, hb⟩, rfl⟩ := h
    exact hed e (by simpa using he) hb
  | step h h' ih =>
    intro o ho hed
    rename_i i k j
    rw [hE, ho] at h
    simp only [edgesOf, List.mem_map, List.mem_filter] at h
    obtain ⟨e, ⟨he, hb⟩, rfl⟩ := h
    have hDk := hed e (by simpa using he) hb
    cases hk : ops[e.on]? with
    | none =>
      exfalso
      have hEk : E e.on = [] := by rw [hE, hk]
      cases h' with
      | edge h' => rw [hEk] at h'; cases h'
      | step h' _ => rw [hEk] at h'; cases h'
    | some ok => exact ih ok hk (hD e.on ok hk hDk)

include hT in
theorem draw_sound (hm : P.follows .mixedOrders = true) {B : Base} {N : Nat} (hN : B.N = N) {id : Nat} {ops : Array Oper} {gs : List Nat} {l : List AOper} {pairs : List (Nat × Nat)} (hst : stripReg N gs ops true = some (.draw gs l pairs))
    {Q : AExit → St → Prop} {s : St} {a : Act} {w : World} (h : vcDraw P T O l (fun acc s' => PreK (apartAll acc pairs = true) (Q .normal s')) [] s) (hr : Rel B w a s) : (Code.region id ops true).wp P (post B Q) a w := by
  unfold stripReg at hst
  split at hst
  · rename_i l' hl
    split at hst
    · rename_i hd
      simp only [if_true] at hst
      split at hst
      · rename_i hed
        simp only [Option.map_eq_some_iff] at hst
        obtain ⟨pairs', hop, heq⟩ := hst
        cases heq
        obtain ⟨hlen, hget⟩ := aopers_get hl
        have hlen' : l.length = ops.size := by rw [hlen]; simp
        obtain ⟨E, fps, hE, ⟨hap, hQ⟩, hfl, hfg⟩ := (vcDraw_runs h).out
        have hfp := fun i o h => (hfg i o h).1
        simp only [List.nil_append] at hap
        have hedge : ∀ i o, ops[i]? = some o → ∀ e ∈ o.after, Region.binds .any e = true → e.on < i := by
          intro i o ho e he hb
          have := edgesOK_get hed i o (by simpa using ho) e.on (by simp only [edgesOf, List.mem_map, List.mem_filter]; exact ⟨e, ⟨by simpa using he, hb⟩, rfl⟩)
          omega
        have hoper : ∀ i o, ops[i]? = some o → aoper ops o = some (l.getD i ⟨none, .ready 0, 0, none⟩) := by
          intro i o ho
          obtain ⟨x, hx, hax⟩ := hget i o (by simpa using ho)
          simp [List.getD_eq_getElem?_getD, hx, hax]
        have hlg : ∀ i, i < l.length → l[i]? = some (l.getD i ⟨none, .ready 0, 0, none⟩) := by
          intro i hi
          simp [List.getD_eq_getElem?_getD, hi]
        have hpairs : ∀ i, i < l.length → ∀ j, j < i → j ∈ (ancL (ops.toList.map edgesOf) []).getD i [] ∨ ((j, i) ∈ pairs ∧ ∃ x y, l[j]? = some x ∧ l[i]? = some y ∧ slotsApart x y = true) :=
          fun i hi => outer_spec _ _ hop i (by simpa using hi)
        let Ef : Nat → List Nat := fun i => match ops[i]? with | some o => edgesOf o | none => []
        have hanc : ∀ k, ∀ j ∈ (ancL (ops.toList.map edgesOf) []).getD k [], Anc Ef k j := by
          refine mem_ancL _ [] (by simp) fun i hi j hj => ?_
          have hi' : i < ops.size := by simpa using hi
          have : (ops.toList.map edgesOf).getD i [] = edgesOf ops[i] := by simp [List.getD_eq_getElem?_getD, hi']
          rw [this] at hj
          simpa [Ef, hi'] using hj
        let p : Plan P T O ops l.length := {
          ao := fun i => l.getD i ⟨none, .ready 0, 0, none⟩
          V := fun i => (E.getD i (.junk, [])).1
          U := fun i => (E.getD i (.junk, [])).2
          F := fun i => (fps.getD i ([], [])).1
          s := s
          anc := fun i => (ancL (ops.toList.map edgesOf) []).getD i []
          size := hlen'.symm
          oper := hoper
          edge := hedge
          close := fun D hD i o ho hed' j hj => edges_close hedge D hD (E := Ef) (fun i => rfl) (hanc i j hj) o ho hed'
          still := by
            intro j i hji hi
            rcases hpairs i hi j hji with h1 | ⟨_, x, y, hx, hy, hxy⟩
            · exact .inl h1
            · right
              have ex : l.getD j ⟨none, .ready 0, 0, none⟩ = x := by simp [List.getD_eq_getElem?_getD, hx]
              have ey : l.getD i ⟨none, .ready 0, 0, none⟩ = y := by simp [List.getD_eq_getElem?_getD, hy]
              simp only [ex, ey]
              simp only [slotsApart, Bool.and_eq_true] at hxy
              refine ⟨fun t ht => disj_spec hxy.1.1 t (by rw [ht]; simp [optL]), fun t ht => disj_spec hxy.1.2 t (by rw [ht]; simp [optL]), fun t ht ht' => disj_spec hxy.2 t (by rw [ht]; simp [optL]) (by rw [ht']; simp [optL])⟩
          apart := by
            intro j i hji hi
            rcases hpairs i hi j hji with h1 | ⟨hp, _⟩
            · exact .inl h1
            · right
              obtain ⟨x, y, hx, hy, d1, d2, d3⟩ := apartAll_get hap j i hp
              have fx := hfp j _ (hlg j (by omega))
              have fy := hfp i _ (hlg i hi)
              rw [hx] at fx
              rw [hy] at fy
              simp only [Option.some.injEq] at fx fy
              rw [fx, fy] at d1 d2 d3
              exact ⟨disj_spec d1, disj_spec d2, disj_spec d3⟩
          steps := by
            intro i hi
            rw [stOf_lt i (by omega)]
            exact (hfg i _ (hlg i hi)).2 }
        have hfin : p.st (fun _ => true) = stAt l E s l.length := by
          rw [← stOf_lt l.length (Nat.le_refl _)]
          show stOf _ _ _ _ _ _ = stOf _ _ _ _ _ _
          unfold stOf
          have : (List.range l.length).filter (fun _ => true) = (List.range l.length).filter fun k => decide (k < l.length) := by
            apply List.filter_congr
            intro k hk
            simpa using hk
          rw [this]
        refine wp_region_any hm (any_sound hT p (B := B) (fun i hi t ht => ?_) (fun a' w' hrel => ?_) _ _ _ _ ?_ ?_ ?_ ?_)
        · rw [hN]
          exact dstsOK_get hd i _ (hlg i hi) t ht
        · rw [hfin] at hrel
          exact ⟨_, hrel, hQ⟩
        · simp [hlen']
        · intro i o ho hli
          rw [rep_false] at hli
          cases hli
        · refine Nat.le_trans (List.length_filter_le _ _) ?_
          simp [hlen']
        · have h0 : p.st (fun i => (Array.replicate ops.size false).getD i false) = s := by
            show stOf _ _ _ _ _ _ = s
            unfold stOf
            have : (List.range l.length).filter (fun i => (Array.replicate ops.size false).getD i false) = [] := by
              rw [List.filter_eq_nil_iff]
              intro i _
              rw [rep_false]
              simp
            rw [this]
            rfl
          rw [h0]
          exact hr.drew
      · cases hst
    · cases hst
  · cases hst

theorem stripReg_shape {N : Nat} {gs : List Nat} {ops : Array Oper} {draw : Bool} {ac : ACode} (h : stripReg N gs ops draw = some ac) :
    (draw = false ∧ ∃ l, ac = .reg gs l ∧ aopers ops ops.toList = some l ∧ dstsOK N l = true) ∨ (draw = true ∧ ∃ l pairs, ac = .draw gs l pairs) := by
  unfold stripReg at h
  split at h
  · rename_i l hl
    split at h
    · rename_i hd
      cases draw with
      | false =>
        simp only [Bool.false_eq_true, if_false, Option.some.injEq] at h
        exact .inl ⟨rfl, l, h.symm, hl, hd⟩
      | true =>
        simp only [if_true] at h
        split at h
        · simp only [Option.map_eq_some_iff] at h
          obtain ⟨pairs, _, h⟩ := h
          exact .inr ⟨rfl, l, pairs, h.symm⟩
        · cases h
    · cases h
  · cases h

include hT in
theorem vc_sound (hm : P.follows .mixedOrders = true) {N : Nat} {G : Nat → List Nat} : ∀ (c : Code) (ac : ACode), strip N G c = some ac → ∀ (Q : AExit → St → Prop) (s : St), vc P T O ac Q s →
    ∀ (B : Base) (w : World) (a : Act), B.N = N → Rel B w a s → c.wp P (post B Q) a w
  | .skip, ac, hs, Q, s, h, B, w, a, hN, hr => by
    simp only [strip, Option.some.injEq] at hs; subst hs
    exact wp_skip ⟨s, hr, h⟩
  | .region id ops draw, ac, hs, Q, s, h, B, w, a, hN, hr => by
    simp only [strip] at hs
    rcases stripReg_shape hs with ⟨rfl, l, rfl, hl, hd⟩ | ⟨rfl, l, pairs, rfl⟩
    · obtain ⟨s', h', hr'⟩ := frzs_rel h hr
      obtain ⟨hlen, hget⟩ := aopers_get hl
      have hlen' : l.length = ops.size := by rw [hlen]; simp
      refine wp_region ?_
      have := vcOps_sound (O := O) hT (B := B) (ops := ops) (Q := post B Q) (fun a w s hr hk => ⟨s, hr, hk⟩) l 0 s' a w (fun i x hx => ?_) (by omega) (fun x hx t ht => ?_) h' hr'
      · simpa [hlen'] using this
      · have hi : i < ops.size := by rw [← hlen']; exact (List.getElem?_eq_some_iff.1 hx).1
        obtain ⟨y, hy, hay⟩ := hget i ops[i] (by simp [hi])
        rw [hx] at hy
        cases hy
        exact ⟨ops[i], by simp [hi], hay⟩
      · obtain ⟨i, hi⟩ := List.mem_iff_getElem?.1 hx
        rw [hN]
        exact dstsOK_get hd i x hi t ht
    · obtain ⟨s', h', hr'⟩ := frzs_rel h hr
      exact draw_sound hT hm hN hs h' hr'
  | .seq c d, ac, hs, Q, s, h, B, w, a, hN, hr => by
    simp only [strip] at hs
    cases hx : strip N G c with
    | none => rw [hx] at hs; cases hs
    | some x =>
      cases hy : strip N G d with
      | none => rw [hx, hy] at hs; cases hs
      | some y =>
        rw [hx, hy] at hs
        simp only [Option.bind_some, Option.map_some, Option.some.injEq] at hs
        subst hs
        refine wp_seq (wp_mono (vc_sound hm c x hx _ s h B w a hN hr) ?_)
        intro e a' w' hp
        cases e with
        | normal =>
          obtain ⟨s', hr', hq⟩ := hp
          exact vc_sound hm d y hy Q s' hq B w' a' hN hr'
        | exit id => exact hp
        | ret => exact hp
        | _ => exact hp.elim
  | .cond t c d, ac, hs, Q, s, h, B, w, a, hN, hr => by
    simp only [strip] at hs
    cases hx : strip N G c with
    | none => rw [hx] at hs; cases hs
    | some x =>
      cases hy : strip N G d with
      | none => rw [hx, hy] at hs; cases hs
      | some y =>
        rw [hx, hy] at hs
        simp only [Option.bind_some, Option.map_some, Option.some.injEq] at hs
        subst hs
        obtain ⟨μ, hrel⟩ := hr
        have hev := rep_ev hrel t
        simp only [vc, CondK] at h
        split at h
        · rename_i b hb
          rw [hb] at hev
          exact wp_cond_split hev.one.1 (fun hbt => vc_sound hm c x hx Q s (h.1 hbt) B w a hN ⟨μ, hrel⟩) (fun hbf => vc_sound hm d y hy Q s (h.2 hbf) B w a hN ⟨μ, hrel⟩)
        · rename_i g b hb
          rw [hb] at hev
          obtain ⟨hg, h1, h2⟩ := h
          exact wp_cond_split (hev.maybeOf hg).one.1 (fun hbt => vc_sound hm c x hx Q s (h1 hbt) B w a hN ⟨μ, hrel⟩) (fun hbf => vc_sound hm d y hy Q s (h2 hbf) B w a hN ⟨μ, hrel⟩)
        · exact h.elim
  | .block id c, ac, hs, Q, s, h, B, w, a, hN, hr => by
    simp only [strip] at hs
    cases hx : strip N G c with
    | none => rw [hx] at hs; cases hs
    | some x =>
      rw [hx] at hs
      simp only [Option.map_some, Option.some.injEq] at hs
      subst hs
      refine wp_block (wp_mono (vc_sound hm c x hx _ s h B w a hN hr) ?_)
      intro e a' w' hp
      cases e with
      | normal => exact hp
      | exit id' =>
        obtain ⟨s', hr', hq⟩ := hp
        simp only [blockQ] at hq
        simp only [Exit.inBlock]
        by_cases e : id' = id
        · rw [if_pos e] at hq ⊢
          exact ⟨s', hr', hq⟩
        · rw [if_neg e] at hq ⊢
          exact ⟨s', hr', hq⟩
      | ret => exact hp
      | _ => exact hp.elim
  | .loop c, ac, hs, Q, s, h, B, w, a, hN, hr => by
    simp only [strip] at hs
    cases hx : strip N G c with
    | none => rw [hx] at hs; cases hs
    | some x =>
      rw [hx] at hs
      simp only [Option.map_some, Option.some.injEq] at hs
      subst hs
      obtain ⟨ids, h⟩ := h
      obtain ⟨s0, ⟨ι, I, m, ⟨i0, hi0⟩, hround⟩, hr⟩ := frzs_rel h hr
      -- the measure is of the least index that fits
      let J : Nat → Act → World → Prop := fun n a w => ∃ i, m i = n ∧ Rel B w a (I i)
      have key : ∀ n a w, J n a w → ∀ (b : Frame) (k : List Item) (cs : List Frame), ∃ e a' w', post B Q e a' w' ∧ Arrives P (lone (b.at a (.code c :: .inLoop c :: k)) cs w) b k cs e a' w' := by
        intro n
        induction n using Nat.strongRecOn with
        | _ n ih =>
          intro a w hJ b k cs
          obtain ⟨i, hmi, hri⟩ := hJ
          have hb := vc_sound hm c x hx _ _ (hround i) B w a hN hri
          obtain ⟨e, a₁, w₁, hq, harr⟩ := hb b (.inLoop c :: k) cs
          cases e with
          | normal =>
            obtain ⟨s1, hr1, ids, hz⟩ := hq
            obtain ⟨s1', ⟨rs, hz2⟩, hr1'⟩ := frzs_rel hz hr1
            obtain ⟨s', ⟨j, hle, hlt⟩, hr'⟩ := rens_rel hz2 hr1'
            obtain ⟨e₂, a₂, w₂, hq₂, harr₂⟩ := ih (m j) (hmi ▸ hlt) a₁ w₁ ⟨j, rfl, le_rel hle hr'⟩ b k cs
            exact ⟨e₂, a₂, w₂, hq₂, .of_steps (Go.Steps.trans harr (.one step_inLoop)) harr₂⟩
          | exit id => exact ⟨.exit id, a₁, w₁, hq, .pass (x := .inLoop c) rfl (fun _ _ => .inl (by simp)) harr⟩
          | ret => exact ⟨.ret, a₁, w₁, hq, .pass (x := .inLoop c) rfl (fun _ _ => .inl (by simp)) harr⟩
          | _ => exact hq.elim
      intro b k cs
      obtain ⟨e, a', w', hq, harr⟩ := key (m i0) a w ⟨i0, rfl, le_rel hi0 hr⟩ b k cs
      exact ⟨e, a', w', hq, .of_steps (.one step_loop) harr⟩
  | .exit id, ac, hs, Q, s, h, B, w, a, hN, hr => by
    simp only [strip, Option.some.injEq] at hs; subst hs
    exact wp_exit ⟨s, hr, h⟩
  | .ret, ac, hs, Q, s, h, B, w, a, hN, hr => by
    simp only [strip, Option.some.injEq] at hs; subst hs
    exact wp_ret ⟨s, hr, h⟩
  | .rangeFunc _ _ _ _, ac, hs, _, _, _, _, _, _, _, _ => by simp [strip] at hs
  | .scope _, ac, hs, _, _, _, _, _, _, _, _ => by simp [strip] at hs
  | .label _, ac, hs, _, _, _, _, _, _, _, _ => by simp [strip] at hs
  | .goto _, ac, hs, _, _, _, _, _, _, _, _ => by simp [strip] at hs
  | .refuse _, ac, hs, _, _, _, _, _, _, _, _ => by simp [strip] at hs


/-! ### functions -/
def envOf (k : Nat) : List AV → List (Nat × AV)
  | [] => []
  | a :: l => (k, a) :: envOf (k + 1) l

theorem get_envOf : ∀ (l : List AV) (k t : Nat), get (envOf k l) t = if k ≤ t then l.getD (t - k) .junk else .junk
  | [], k, t => by simp [envOf, get]
  | a :: l, k, t => by
    simp only [envOf, get]
    rw [get_envOf l (k + 1) t]
    by_cases h : t = k
    · simp [h]
    · by_cases h2 : k ≤ t
      · have e : t - k = (t - (k + 1)) + 1 := by omega
        rw [if_neg h, if_pos (by omega), if_pos h2, e]
        simp
      · rw [if_neg h, if_neg (by omega), if_neg h2]

/-- The results: what is asked, and what they are. -/
def resL (T : TT) (s : St) : List ResultVar → Prop
  | [] => True
  | .tmp _ :: l => resL T s l
  | .cell x t :: l => (loadE T s.mem t (get s.env x)).pre ∧ resL T s l

def resV (T : TT) (s : St) : List ResultVar → List AV
  | [] => []
  | .tmp t :: l => get s.env t :: resV T s l
  | .cell x t :: l => (loadE T s.mem t (get s.env x)).val :: resV T s l

def resA (l : List AV) : AV :=
  match l with
  | [a] => a
  | l => .tup l

/-- What is asked at a function's end. -/
def Fin (T : TT) (rs : List ResultVar) (r : AV) : AExit → St → Prop
  | .exit _, _ => False
  | _, s => PreK (resL T s rs ∧ snapOK s.mem (resA (resV T s rs))) (snap s.mem (resA (resV T s rs)) = r)

def resOf (tmps : Array Value) : ResultVar → Sem Value
  | .tmp t => pure (tmps.getD t undef)
  | .cell a t => do loadVar t (← asAddr (tmps.getD a undef))

theorem results_eq (fn : Func) (tmps : Array Value) : results fn tmps = (do
    let vs ← fn.results.mapM (resOf tmps)
    pure (if h : vs.size = 1 then vs[0] else .tuple vs)) := rfl

include hT in
theorem run_results {B : Base} {w : World} {a : Act} {s : St} {μ : Mu} (h : RelM B w a s μ) : ∀ (rs : List ResultVar), resL T s rs →
    ∃ vs : List Value, (rs.mapM (resOf a.tmps)).run P w = .ok vs w ∧ vs.length = rs.length ∧
      ∀ i, i < rs.length → Rep w (Yof B.X μ) μ ((resV T s rs).getD i .junk) (vs.getD i undef)
  | [], _ => ⟨[], by simp, rfl, by simp⟩
  | .tmp t :: l, hl => by
    obtain ⟨vs, hr, hlen, hrep⟩ := run_results h l hl
    refine ⟨a.tmps.getD t undef :: vs, by simp only [List.mapM_cons, resOf, Sem.run_bind, Sem.run_pure, Result.andThen_ok, hr], by simp [hlen], fun i hi => ?_⟩
    cases i with
    | zero => simpa [resV] using h.env t
    | succ i => simpa [resV] using hrep i (by simpa using hi)
  | .cell x t :: l, hl => by
    obtain ⟨hp, hl⟩ := hl
    obtain ⟨vs, hr, hlen, hrep⟩ := run_results h l hl
    obtain ⟨p, v, hpv, hrun, hv⟩ := loadE_run hT h (h.env x) hp
    have hload : (do loadVar t (← asAddr (a.tmps.getD x undef)) : Sem Value).run P w = .ok v w := by
      rw [hpv] at hrun ⊢
      simpa [Instr.loadAt, Instr.sureAddr, asAddr] using hrun
    refine ⟨v :: vs, by simp only [List.mapM_cons, resOf, Sem.run_bind, Sem.run_bind .. ▸ hload, Sem.run_pure, Result.andThen_ok, hr], by simp [hlen], fun i hi => ?_⟩
    cases i with
    | zero => simpa [resV] using hv
    | succ i => simpa [resV] using hrep i (by simpa using hi)

theorem resV_length {s : St} : ∀ {rs : List ResultVar}, (resV T s rs).length = rs.length
  | [] => rfl
  | .tmp _ :: l => by simp [resV, resV_length]
  | .cell _ _ :: l => by simp [resV, resV_length]

include hT in
/-- What is shown of a function's code is its contract. -/
theorem callP_of_vc (hm : P.follows .mixedOrders = true) {f : FuncId} {fn : Func} {c : Code} {ac : ACode} {args : List AV} {r : AV} {G : Nat → List Nat} (hf : P.funcs[f]? = some fn) (hb : fn.body = some c) (hname : fn.name ≠ "runtime.NumGoroutine")
    (hs : strip fn.ntmps G c = some ac) (hn : args.length ≤ fn.ntmps) (h : vc P T O ac (Fin T fn.results.toList r) ⟨envOf 0 args, []⟩) : CallP P f args r := by
  refine ⟨⟨fn, hf, hname, by rw [hb]; simp⟩, fun w X vs hX hlen hargs => ?_⟩
  let B : Base := ⟨w, X, Noblk, fn.ntmps, Mu.none, []⟩
  have hrel : Rel B w { tmps := vs ++ Array.replicate (fn.ntmps - vs.size) undef, defers := [] } ⟨envOf 0 args, []⟩ := by
    refine ⟨Mu.none, rfl, by simp [B, hlen]; omega, ⟨fun _ _ => rfl, fun id b hfd => by simp [find] at hfd, fun _ _ _ _ _ _ _ h => (by cases h), ?_⟩, fun t => ?_, Ext.refl _ _, ?_, fun b hb => ⟨hX b hb, fun h => h⟩, fun _ _ _ h => by cases h⟩
    · rintro g ⟨_, _, _, h, _⟩; cases h
    · have hY : ∀ q, ¬ X q → q < w.heap.size → ¬ Yof B.X Mu.none q ∧ w.heap[q]? = w.heap[q]? := by
        intro q hq _
        refine ⟨fun hy => ?_, rfl⟩
        rcases hy with hx | ⟨_, _, _, h, _⟩
        · exact hq hx
        · cases h
      rw [get_envOf, if_pos (Nat.zero_le _), Nat.sub_zero]
      by_cases ht : t < args.length
      · have := hargs t ht
        have e : (vs ++ Array.replicate (fn.ntmps - vs.size) undef).getD t undef = vs.getD t undef := by
          simp only [Array.getD_eq_getD_getElem?]
          rw [Array.getElem?_append_left (by omega)]
        rw [e]
        exact this.mono hY (Mu.later.refl _)
      · have : args.getD t .junk = .junk := by simp [List.getD_eq_getElem?_getD, List.getElem?_eq_none (Nat.le_of_not_lt ht)]
        rw [this]
        exact .junk
    · rintro g ⟨_, _, _, h, _⟩; cases h
  refine calls_of_wp hf hb (wp_mono (vc_sound hT hm c ac hs _ _ h B w _ rfl hrel) ?_)
  have fin : ∀ a' w' s', Rel B w' a' s' → PreK (resL T s' fn.results.toList ∧ snapOK s'.mem (resA (resV T s' fn.results.toList))) (snap s'.mem (resA (resV T s' fn.results.toList)) = r) →
      a'.defers = [] ∧ ∃ v, (results fn a'.tmps).run P w' = .ok v w' ∧ ∃ u, Ending.returned v = .returned u ∧ Grows w w' ∧ Rep w' X Mu.none r u := by
    rintro a' w' s' ⟨μ, hr⟩ ⟨⟨hl, hsn⟩, heq⟩
    obtain ⟨vl, hrun, hvl, hrep⟩ := run_results hT hr fn.results.toList hl
    have hrun2 : (results fn a'.tmps).run P w' = .ok (if h : vl.length = 1 then vl[0]'(by omega) else .tuple vl.toArray) w' := by
      rw [results_eq, Sem.run_bind, Array.mapM_eq_mapM_toList, Sem.run_map, hrun]
      simp only [Result.andThen_ok, Sem.run_pure, List.size_toArray, List.getElem_toArray]
    refine ⟨hr.defers, _, hrun2, _, rfl, ⟨hr.ext.os, hr.ext.tape, hr.ext.output, hr.ext.size, fun b hb => hr.ext.old b hb (fun h => h)⟩, ?_⟩
    rw [← heq]
    refine rep_snap (Y := Yof B.X μ) ?_ (fun b hy hx => hy (.inl hx)) hr.inv hsn
    have hlen2 : (resV T s' fn.results.toList).length = vl.length := by rw [resV_length, hvl]
    by_cases h1 : vl.length = 1
    · rw [dif_pos h1]
      cases hq : resV T s' fn.results.toList with
      | nil => rw [hq] at hlen2; simp at hlen2; omega
      | cons x l =>
        cases l with
        | nil =>
          have := hrep 0 (by omega)
          rw [hq] at this
          simp only [resA]
          simpa [List.getD_eq_getElem?_getD, h1] using this
        | cons y l => rw [hq] at hlen2; simp at hlen2; omega
    · rw [dif_neg h1]
      have hra : resA (resV T s' fn.results.toList) = .tup (resV T s' fn.results.toList) := by
        cases hq : resV T s' fn.results.toList with
        | nil => rfl
        | cons x l =>
          cases l with
          | nil => rw [hq] at hlen2; simp at hlen2; omega
          | cons y l => rfl
      rw [hra]
      refine .tup (by simp [hlen2]) fun i hi => ?_
      have := hrep i (by rw [resV_length] at hi; exact hi)
      simpa [Array.getD_eq_getD_getElem?, List.getD_eq_getElem?_getD] using this
  intro e a' w' hp
  cases e with
  | normal =>
    obtain ⟨s', hr, hq⟩ := hp
    exact fin a' w' s' hr hq
  | ret =>
    obtain ⟨s', hr, hq⟩ := hp
    exact fin a' w' s' hr hq
  | exit id =>
    obtain ⟨s', hr, hq⟩ := hp
    exact hq.elim
  | _ => exact hp.elim

end
end Go.Abs
end

section
/- The value layer, part 27: the contracts of functions whose result is owned, and of functions to which a box is lent. -/
namespace Go.Abs

section
variable {P : Program} {T : TT} (hT : TOK P T) {O : List Nat}

include hT in
/-- A call's run, from what is shown of its code. -/
theorem calls_of_vc (hm : P.follows .mixedOrders = true) {f : FuncId} {fn : Func} {c : Code} {ac : ACode} {G : Nat → List Nat} (hf : P.funcs[f]? = some fn) (hb : fn.body = some c)
    (hs : strip fn.ntmps G c = some ac) {B : Base} (hB : B.N = fn.ntmps) (hB2 : B.dfs = []) {w : World} {vs : Array Value} {s : St} (hrel : Rel B w { tmps := vs ++ Array.replicate (fn.ntmps - vs.size) undef, defers := [] } s) {Q : AExit → St → Prop} (h : vc P T O ac Q s)
    {Post : Ending → World → Prop} (hno : ∀ id s', ¬ Q (.exit id) s') (hfin : ∀ a' w' s', Rel B w' a' s' → (Q .normal s' ∨ Q .ret s') → ∃ v, (results fn a'.tmps).run P w' = .ok v w' ∧ Post (.returned v) w') : Calls P f vs w Post := by
  refine calls_of_wp hf hb (wp_mono (vc_sound hT hm c ac hs _ _ h B w _ hB hrel) ?_)
  intro e a' w' hp
  cases e with
  | normal =>
    obtain ⟨s', hr, hq⟩ := hp
    obtain ⟨v, h1, h2⟩ := hfin a' w' s' hr (.inl hq)
    obtain ⟨μ, hr⟩ := hr
    exact ⟨hr.defers.trans hB2, v, h1, h2⟩
  | ret =>
    obtain ⟨s', hr, hq⟩ := hp
    obtain ⟨v, h1, h2⟩ := hfin a' w' s' hr (.inr hq)
    obtain ⟨μ, hr⟩ := hr
    exact ⟨hr.defers.trans hB2, v, h1, h2⟩
  | exit id =>
    obtain ⟨s', hr, hq⟩ := hp
    exact (hno _ _ hq).elim
  | _ => exact hp.elim

/-- What is asked at the end of a function whose result is owned. -/
def OwnK (m : List (Nat × Option Box)) (sz : Nat) (els : List AV) : AV → Prop
  | .sl id ver off len => match find m id with
    | some b => b.ver = ver ∧ (b.var = true → AV.refsL els = []) ∧ b.sz = sz ∧ off + len ≤ b.els.length ∧ rng b.els off len = els
    | none => False
  | .seq _ [] true => els = []
  | _ => False
def FinO (rs : List ResultVar) (sz : Nat) (els : List AV) : AExit → St → Prop
  | .exit _, _ => False
  | _, s => match rs with
    | [.tmp t] => OwnK s.mem sz els (get s.env t)
    | _ => False

omit hT in
theorem rel_of_args {w : World} {X : Nat → Prop} {vs : Array Value} {N : Nat} {args : List AV} (hX : ∀ b, X b → b < w.heap.size) (hlen : vs.size = args.length) (hargs : ∀ i, i < args.length → Rep w X Mu.none (args.getD i .junk) (vs.getD i undef)) (hn : args.length ≤ N) :
    Rel ⟨w, X, Noblk, N, Mu.none, []⟩ w { tmps := vs ++ Array.replicate (N - vs.size) undef, defers := [] } ⟨envOf 0 args, []⟩ := by
  refine ⟨Mu.none, rfl, by simp [hlen]; omega, ⟨fun _ _ => rfl, fun id b hfd => by simp [find] at hfd, fun _ _ _ _ _ _ _ h => (by cases h), ?_⟩, fun t => ?_, Ext.refl _ _, ?_, fun b hb => ⟨hX b hb, fun h => h⟩, fun _ _ _ h => by cases h⟩
  · rintro g ⟨_, _, _, h, _⟩; cases h
  · have hY : ∀ q, ¬ X q → q < w.heap.size → ¬ Yof X Mu.none q ∧ w.heap[q]? = w.heap[q]? := by
      intro q hq _
      refine ⟨fun hy => ?_, rfl⟩
      rcases hy with hx | ⟨_, _, _, h, _⟩
      · exact hq hx
      · cases h
    rw [get_envOf, if_pos (Nat.zero_le _), Nat.sub_zero]
    by_cases ht : t < args.length
    · have := hargs t ht
      have e : (vs ++ Array.replicate (N - vs.size) undef).getD t undef = vs.getD t undef := by
        simp only [Array.getD_eq_getD_getElem?]
        rw [Array.getElem?_append_left (by omega)]
      rw [e]
      exact this.mono hY (Mu.later.refl _)
    · have : args.getD t .junk = .junk := by simp [List.getD_eq_getElem?_getD, List.getElem?_eq_none (Nat.le_of_not_lt ht)]
      rw [this]
      exact .junk
  · rintro g ⟨_, _, _, h, _⟩; cases h

theorem results_one {fn : Func} {t : Nat} (h : fn.results.toList = [.tmp t]) (tmps : Array Value) (w : World) : (results fn tmps).run P w = .ok (tmps.getD t undef) w := by
  rw [results_eq, Sem.run_bind, Array.mapM_eq_mapM_toList, Sem.run_map, h]
  simp [resOf]

omit hT in
/-- A box of the frame is what the caller owns. -/
theorem ownK_owned {w w' : World} {X : Nat → Prop} {N : Nat} {a' : Act} {s' : St} {μ : Mu} {sz t : Nat} {els : List AV} (hrel : RelM ⟨w, X, Noblk, N, Mu.none, []⟩ w' a' s' μ) (hq' : OwnK s'.mem sz els (get s'.env t)) : Owned w w' X sz els (a'.tmps.getD t undef) := by
    have hrep := hrel.env t
    unfold OwnK at hq'
    split at hq'
    · rename_i id ver off len hget
      rw [hget] at hrep
      split at hq'
      · rename_i b hbx
        obtain ⟨hbv, hbr, hbs, hfit, hrng⟩ := hq'
        obtain ⟨l, hml, hlv, hls, hh⟩ := hrel.inv.box id b hbx
        generalize a'.tmps.getD t undef = v at hrep ⊢
        rw [rng_eq] at hrng
        have hlen : els.length = len := by rw [← hrng]; simp; omega
        have hget : ∀ i, i < len → els.getD i .junk = b.els.getD (off + i) .junk := by
          intro i hi
          rw [← hrng]
          simp [List.getD_eq_getElem?_getD, List.getElem?_take, hi, List.getElem?_drop]
        cases hrep with
        | slOld hm' hv' => rw [hml] at hm'; cases hm'; omega
        | slNil hm' hv' hnf => exact .inl ⟨List.eq_nil_of_length_eq_zero hlen, _, rfl⟩
        | sl hm' hv' hbk hcap hfit2 hz =>
          rename_i cap loc g n
          rw [hml] at hm'; cases hm'
          unfold Holds at hh
          rw [hbk] at hh
          obtain ⟨hbig, hcell, _⟩ := hh
          obtain ⟨c, el, hw, hcs, hfit3, h1, hr⟩ := hcell (by rw [← hls]; exact hz)
          have hg : blks μ g := ⟨id, l, n, hml, hbk⟩
          have hge : w.heap.size ≤ g := by
            rcases hrel.mine g hg with ho | hge
            · exact ho.elim
            · exact hge
          refine .inr ⟨g, l.base + off * l.sz, cap, c, el, by rw [hlen], by rw [← hbs, ← hls]; exact hz, hge, hw, by omega, ?_, by omega, fun j hj => h1 j (by omega), fun i hi => ?_⟩
          · rw [hcs, ← hbs, ← hls]
            rw [Nat.add_mul] at hfit2
            omega
          · have hi' : i < len := by omega
            have hri := hr (off + i) (by omega)
            rw [hget i hi', ← hbs]
            refine ⟨hri.1, ?_⟩
            have h2 := hri.2
            have h2 : Rep w' (Yof X μ) Mu.none (b.els.getD (off + i) .junk) (elemVal (b.els.getD (off + i) .junk) b.sz c (l.base + (off + i) * b.sz)) := by
              cases hvr : b.var with
              | false => rw [hvr] at h2; simpa using h2
              | true =>
                rw [hvr] at h2
                simp only [if_true] at h2
                exact refs_rep (by rw [← hget i hi']; exact refsL_get (hbr hvr) (by omega)) h2
            rw [hls, Nat.add_assoc, ← Nat.add_mul]
            refine h2.mono (fun q hq _ => ⟨fun hy => hq ?_, rfl⟩) (Mu.later.refl _)
            rcases hy with hy | rfl
            · exact .inl hy
            · exact .inr hg
      · exact hq'.elim
    · rename_i sz' hget
      rw [hget] at hrep
      subst hq'
      refine .inl ⟨rfl, ?_⟩
      rcases hrep.seq_cells with ⟨_, p', e⟩ | ⟨b, off, cap', c, el, fr, e, hY, hb, hc, hff, _⟩
      · exact ⟨_, e⟩
      · have := hff rfl
        subst this
        exact ⟨_, e⟩
    · exact hq'.elim
theorem results_two {fn : Func} {t t' : Nat} (h : fn.results.toList = [.tmp t, .tmp t']) (tmps : Array Value) (w : World) : (results fn tmps).run P w = .ok (.tuple #[tmps.getD t undef, tmps.getD t' undef]) w := by
  rw [results_eq, Sem.run_bind, Array.mapM_eq_mapM_toList, Sem.run_map, h]
  simp [resOf]
/-- The end of a function of two results, the first of which the caller owns. -/
def FinT (rs : List ResultVar) (sz : Nat) (els : List AV) (u : Value) : AExit → St → Prop
  | .exit _, _ => False
  | _, s => match rs with
    | [.tmp t, .tmp t'] => OwnK s.mem sz els (get s.env t) ∧ get s.env t' = .raw u
    | _ => False
include hT in
theorem callT_of_vc (hm : P.follows .mixedOrders = true) {f : FuncId} {fn : Func} {ac : ACode} {args : List AV} {G : Nat → List Nat} {rs : List ResultVar} {N sz : Nat} {els : List AV} {u : Value} (hu : u.oneCell' = true) (hf : P.funcs[f]? = some fn) (hname : (fn.name == "runtime.NumGoroutine") = false)
    (hr : fn.results.toList = rs) (hN : fn.ntmps = N) (hs : fn.body.bind (strip N G) = some ac) (hn : args.length ≤ N) (h : vc P T O ac (FinT rs sz els u) ⟨envOf 0 args, []⟩) : CallT P f args sz els u := by
  cases hb : fn.body with
  | none => rw [hb] at hs; cases hs
  | some c =>
  rw [hb] at hs
  subst hN hr
  refine ⟨⟨fn, hf, (fun e => by rw [e] at hname; simp at hname), by rw [hb]; simp⟩, hu, fun w X vs hX hlen hargs => ?_⟩
  refine calls_of_vc hT hm hf hb hs (B := ⟨w, X, Noblk, fn.ntmps, Mu.none, []⟩) rfl rfl (rel_of_args hX hlen hargs hn) h (fun id s' hq => hq) ?_
  intro a' w' s' hrel hq
  have hq' : match fn.results.toList with | [.tmp t, .tmp t'] => OwnK s'.mem sz els (get s'.env t) ∧ get s'.env t' = .raw u | _ => False := by rcases hq with hq | hq <;> exact hq
  split at hq'
  · rename_i t t' hres
    obtain ⟨μ, hrel⟩ := hrel
    have hu2 := hrel.env t'
    rw [hq'.2] at hu2
    refine ⟨_, results_two hres a'.tmps w', _, by rw [hu2.one.1], ⟨hrel.ext.os, hrel.ext.tape, hrel.ext.output, hrel.ext.size, fun b hb => hrel.ext.old b hb (fun h => h)⟩, ownK_owned hrel hq'.1⟩
  · exact hq'.elim

include hT in
theorem callO_of_vc (hm : P.follows .mixedOrders = true) {f : FuncId} {fn : Func} {ac : ACode} {args : List AV} {G : Nat → List Nat} {rs : List ResultVar} {N sz : Nat} {els : List AV} (hf : P.funcs[f]? = some fn) (hname : (fn.name == "runtime.NumGoroutine") = false)
    (hr : fn.results.toList = rs) (hN : fn.ntmps = N) (hs : fn.body.bind (strip N G) = some ac) (hn : args.length ≤ N) (h : vc P T O ac (FinO rs sz els) ⟨envOf 0 args, []⟩) : CallO P f args sz els := by
  cases hb : fn.body with
  | none => rw [hb] at hs; cases hs
  | some c =>
  rw [hb] at hs
  subst hN hr
  refine ⟨⟨fn, hf, (fun e => by rw [e] at hname; simp at hname), by rw [hb]; simp⟩, fun w X vs hX hlen hargs => ?_⟩
  refine calls_of_vc hT hm hf hb hs (B := ⟨w, X, Noblk, fn.ntmps, Mu.none, []⟩) rfl rfl (rel_of_args hX hlen hargs hn) h (fun id s' hq => hq) ?_
  intro a' w' s' hrel hq
  have hq' : match fn.results.toList with | [.tmp t] => OwnK s'.mem sz els (get s'.env t) | _ => False := by rcases hq with hq | hq <;> exact hq
  split at hq'
  · rename_i t hres
    obtain ⟨μ, hrel⟩ := hrel
    refine ⟨_, results_one hres a'.tmps w', _, rfl, ⟨hrel.ext.os, hrel.ext.tape, hrel.ext.output, hrel.ext.size, fun b hb => hrel.ext.old b hb (fun h => h)⟩, ?_⟩
    have hrep := hrel.env t
    unfold OwnK at hq'
    split at hq'
    · rename_i id ver off len hget
      rw [hget] at hrep
      split at hq'
      · rename_i b hbx
        obtain ⟨hbv, hbr, hbs, hfit, hrng⟩ := hq'
        obtain ⟨l, hml, hlv, hls, hh⟩ := hrel.inv.box id b hbx
        generalize a'.tmps.getD t undef = v at hrep ⊢
        rw [rng_eq] at hrng
        have hlen : els.length = len := by rw [← hrng]; simp; omega
        have hget : ∀ i, i < len → els.getD i .junk = b.els.getD (off + i) .junk := by
          intro i hi
          rw [← hrng]
          simp [List.getD_eq_getElem?_getD, List.getElem?_take, hi, List.getElem?_drop]
        cases hrep with
        | slOld hm' hv' => rw [hml] at hm'; cases hm'; omega
        | slNil hm' hv' hnf => exact .inl ⟨List.eq_nil_of_length_eq_zero hlen, _, rfl⟩
        | sl hm' hv' hbk hcap hfit2 hz =>
          rename_i cap loc g n
          rw [hml] at hm'; cases hm'
          unfold Holds at hh
          rw [hbk] at hh
          obtain ⟨hbig, hcell, _⟩ := hh
          obtain ⟨c, el, hw, hcs, hfit3, h1, hr⟩ := hcell (by rw [← hls]; exact hz)
          have hg : blks μ g := ⟨id, l, n, hml, hbk⟩
          have hge : w.heap.size ≤ g := by
            rcases hrel.mine g hg with ho | hge
            · exact ho.elim
            · exact hge
          refine .inr ⟨g, l.base + off * l.sz, cap, c, el, by rw [hlen], by rw [← hbs, ← hls]; exact hz, hge, hw, by omega, ?_, by omega, fun j hj => h1 j (by omega), fun i hi => ?_⟩
          · rw [hcs, ← hbs, ← hls]
            rw [Nat.add_mul] at hfit2
            omega
          · have hi' : i < len := by omega
            have hri := hr (off + i) (by omega)
            rw [hget i hi', ← hbs]
            refine ⟨hri.1, ?_⟩
            have h2 := hri.2
            have h2 : Rep w' (Yof X μ) Mu.none (b.els.getD (off + i) .junk) (elemVal (b.els.getD (off + i) .junk) b.sz c (l.base + (off + i) * b.sz)) := by
              cases hvr : b.var with
              | false => rw [hvr] at h2; simpa using h2
              | true =>
                rw [hvr] at h2
                simp only [if_true] at h2
                exact refs_rep (by rw [← hget i hi']; exact refsL_get (hbr hvr) (by omega)) h2
            rw [hls, Nat.add_assoc, ← Nat.add_mul]
            refine h2.mono (fun q hq _ => ⟨fun hy => hq ?_, rfl⟩) (Mu.later.refl _)
            rcases hy with hy | rfl
            · exact .inl hy
            · exact .inr hg
      · exact hq'.elim
    · rename_i sz' hget
      rw [hget] at hrep
      subst hq'
      refine .inl ⟨rfl, ?_⟩
      rcases hrep.seq_cells with ⟨_, p', e⟩ | ⟨b, off, cap', c, el, fr, e, hY, hb, hc, hff, _⟩
      · exact ⟨_, e⟩
      · have := hff rfl
        subst this
        exact ⟨_, e⟩
    · exact hq'.elim
  · exact hq'.elim


/-- What is asked at the end of a function to which a box is lent. -/
def LentK (m : List (Nat × Option Box)) (sz : Nat) (els' : List AV) : Prop := find m lid = some ⟨sz, els', 0, false⟩
def LRetK (T : TT) (s : St) (rs : List ResultVar) : LRet → Prop
  | .val a => resL T s rs ∧ resA (resV T s rs) = a ∧ flat a = true
  | .part len => match rs with
    | [.tmp t] => get s.env t = .sl lid 0 0 len
    | _ => False
def FinL (T : TT) (rs : List ResultVar) (sz : Nat) (r : LRet) (els' : List AV) : AExit → St → Prop
  | .exit _, _ => False
  | _, s => LentK s.mem sz els' ∧ LRetK T s rs r

include hT in
theorem callL_of_vc (hm : P.follows .mixedOrders = true) {f : FuncId} {fn : Func} {ac : ACode} {pre suf : List AV} {G : Nat → List Nat} {rs : List ResultVar} {N sz : Nat} {els els' : List AV} {r : LRet} (hf : P.funcs[f]? = some fn) (hname : (fn.name == "runtime.NumGoroutine") = false)
    (hr : fn.results.toList = rs) (hN : fn.ntmps = N) (hs : fn.body.bind (strip N G) = some ac) (hn : (pre ++ .sl lid 0 0 els.length :: suf).length ≤ N)
    (h : vc P T O ac (FinL T rs sz r els') ⟨envOf 0 (pre ++ .sl lid 0 0 els.length :: suf), [(lid, some ⟨sz, els, 0, false⟩)]⟩) : CallL P f pre sz els suf r els' := by
  cases hb : fn.body with
  | none => rw [hb] at hs; cases hs
  | some c =>
  rw [hb] at hs
  subst hN hr
  refine ⟨⟨fn, hf, (fun e => by rw [e] at hname; simp at hname), by rw [hb]; simp⟩, fun w X l vs hl0 hlsz hX hXl hh hlen hargs => ?_⟩
  have hfind : ∀ id b, find [(lid, some (⟨sz, els, 0, false⟩ : Box))] id = some b → id = lid ∧ b = ⟨sz, els, 0, false⟩ := by
    intro id b hfd
    simp only [find] at hfd
    split at hfd
    · rename_i e; cases hfd; exact ⟨e, rfl⟩
    · cases hfd
  have hmu : ∀ id l', mu1 l id = some l' → id = lid ∧ l' = l := by
    intro id l' hm'
    unfold mu1 at hm'
    split at hm'
    · rename_i e; cases hm'; exact ⟨e, rfl⟩
    · cases hm'
  have hrel : Rel ⟨w, X, blks (mu1 l), fn.ntmps, mu1 l, []⟩ w { tmps := vs ++ Array.replicate (fn.ntmps - vs.size) undef, defers := [] } ⟨envOf 0 (pre ++ .sl lid 0 0 els.length :: suf), [(lid, some ⟨sz, els, 0, false⟩)]⟩ := by
    refine ⟨mu1 l, rfl, by simp only [Array.size_append, Array.size_replicate]; omega, ⟨fun id hid => ?_, fun id b hfd => ?_, fun i i' l1 l2 g n n' h1 h2 h3 h4 => ?_, fun g hg => ?_⟩, fun t => ?_, Ext.refl _ _, fun g hg => .inl hg, fun b hb => ⟨hX b hb, fun hbl => ?_⟩, fun id l1 l2 h1 h2 => ?_⟩
    · simp only [find] at hid
      split at hid
      · cases hid
      · rename_i e; simp [mu1, e]
    · obtain ⟨rfl, rfl⟩ := hfind id b hfd
      exact ⟨l, by simp [mu1], hl0, hlsz, hh⟩
    · rw [(hmu _ _ h1).1, (hmu _ _ h2).1]
    · obtain ⟨n, hn⟩ := blks_mu1.1 hg
      exact hXl g n hn
    · rw [get_envOf, if_pos (Nat.zero_le _), Nat.sub_zero]
      by_cases ht : t < (pre ++ .sl lid 0 0 els.length :: suf).length
      · have := hargs t ht
        have e : (vs ++ Array.replicate (fn.ntmps - vs.size) undef).getD t undef = vs.getD t undef := by
          simp only [Array.getD_eq_getD_getElem?]
          rw [Array.getElem?_append_left (by omega)]
        rw [e]
        exact this
      · have : (pre ++ .sl lid 0 0 els.length :: suf).getD t .junk = .junk := by rw [List.getD_eq_getElem?_getD, List.getElem?_eq_none (Nat.le_of_not_lt ht)]; rfl
        rw [this]
        exact .junk
    · obtain ⟨n, hn⟩ := blks_mu1.1 hbl
      exact hXl b n hn hb
    · obtain ⟨rfl, rfl⟩ := hmu _ _ h1
      obtain ⟨_, rfl⟩ := hmu _ _ h2
      exact .inl rfl
  refine calls_of_vc hT hm hf hb hs (B := ⟨w, X, blks (mu1 l), fn.ntmps, mu1 l, []⟩) rfl rfl hrel h (fun id s' hq => hq) ?_
  intro a' w' s' hrel' hq
  have hq' : LentK s'.mem sz els' ∧ LRetK T s' fn.results.toList r := by rcases hq with hq | hq <;> exact hq
  obtain ⟨hlk, hq'⟩ := hq'
  obtain ⟨μ, hrel'⟩ := hrel'
  obtain ⟨l', hml, hlv, hls, hh'⟩ := hrel'.inv.box lid _ hlk
  have hll : l' = l := by
    rcases hrel'.kept lid l l' (by simp [mu1]) hml with e | e
    · exact e
    · simp only at hlv; omega
  subst hll
  have hsub : ∀ q, ¬ Yof X μ q → q < w'.heap.size → ¬ Yof X (mu1 l') q ∧ w'.heap[q]? = w'.heap[q]? := by
    intro q hq _
    refine ⟨fun hy => hq ?_, rfl⟩
    rcases hy with hy | hy
    · exact .inl hy
    · obtain ⟨n, hn⟩ := blks_mu1.1 hy
      exact .inr ⟨lid, l', n, hml, hn⟩
  have hholds : Holds w' (Yof X (mu1 l')) (mu1 l') l' ⟨sz, els', 0, false⟩ := by
    unfold Holds at hh' ⊢
    refine ⟨hh'.1, ?_⟩
    have h2 := hh'.2
    simp only [Bool.false_eq_true, if_false] at h2 ⊢
    cases hbk : l'.blk with
    | none => rw [hbk] at h2; exact h2
    | some gn =>
      obtain ⟨g', n'⟩ := gn
      rw [hbk] at h2
      refine ⟨fun hz => ?_, fun hz => ?_⟩
      · obtain ⟨c, el, hw, hcs, hfit, h1, hr⟩ := h2.1 hz
        exact ⟨c, el, hw, hcs, hfit, h1, fun i hi => ⟨(hr i hi).1, (hr i hi).2.mono hsub (Mu.later.refl _)⟩⟩
      · obtain ⟨hv0, es, clock, hw, hs, hr⟩ := h2.2 hz
        exact ⟨by first | rfl | trivial | exact hv0, es, clock, hw, hs, fun i hi => (hr i hi).mono hsub (Mu.later.refl _)⟩
  cases r with
  | val ra =>
    obtain ⟨hl, heq, hfl⟩ := hq'
    obtain ⟨vl, hrun, hvl, hrep⟩ := run_results hT hrel' fn.results.toList hl
    have hrun2 : (results fn a'.tmps).run P w' = .ok (if h : vl.length = 1 then vl[0]'(by omega) else .tuple vl.toArray) w' := by
      rw [results_eq, Sem.run_bind, Array.mapM_eq_mapM_toList, Sem.run_map, hrun]
      simp only [Result.andThen_ok, Sem.run_pure, List.size_toArray, List.getElem_toArray]
    refine ⟨_, hrun2, _, rfl, hrel'.ext, hholds, ?_⟩
    simp only [LRet.rep]
    rw [← heq]
    rw [← heq] at hfl
    refine Rep.flat (w := w') (Y := Yof X μ) (μ := μ) ?_ _ hfl
    have hlen2 : (resV T s' fn.results.toList).length = vl.length := by rw [resV_length, hvl]
    by_cases h1 : vl.length = 1
    · rw [dif_pos h1]
      cases hq : resV T s' fn.results.toList with
      | nil => rw [hq] at hlen2; simp at hlen2; omega
      | cons x l =>
        cases l with
        | nil =>
          have := hrep 0 (by omega)
          rw [hq] at this
          simp only [resA]
          simpa [List.getD_eq_getElem?_getD, h1] using this
        | cons y l => rw [hq] at hlen2; simp at hlen2; omega
    · rw [dif_neg h1]
      have hra : resA (resV T s' fn.results.toList) = .tup (resV T s' fn.results.toList) := by
        cases hq : resV T s' fn.results.toList with
        | nil => rfl
        | cons x l =>
          cases l with
          | nil => rw [hq] at hlen2; simp at hlen2; omega
          | cons y l => rfl
      rw [hra]
      refine .tup (by simp [hlen2]) fun i hi => ?_
      have := hrep i (by rw [resV_length] at hi; exact hi)
      simpa [Array.getD_eq_getD_getElem?, List.getD_eq_getElem?_getD] using this
  | part len =>
    simp only [LRetK] at hq'
    split at hq'
    · rename_i t hres
      refine ⟨_, results_one hres a'.tmps w', _, rfl, hrel'.ext, hholds, ?_⟩
      have hrep := hrel'.env t
      rw [hq'] at hrep
      simp only [LRet.rep]
      generalize a'.tmps.getD t undef = v at hrep ⊢
      cases hrep with
      | slNil hm' hv' hnf => rw [hml] at hm'; cases hm'; exact .slNil (loc := l') (by simp [mu1]) hl0 hnf
      | sl hm' hv' hbk hcap hfit hz =>
        rw [hml] at hm'; cases hm'
        exact .sl (loc := l') (by simp [mu1]) hl0 hbk hcap hfit hz
      | slOld hm' hv' =>
        rw [hml] at hm'; cases hm'
        omega
    · exact hq'.elim


omit hT in
/-- An owned result may be read as an immutable one. -/
theorem CallO.toP {f : FuncId} {args : List AV} {sz : Nat} {els : List AV} (h : CallO P f args sz els) : CallP P f args (.seq sz els false) := by
  refine ⟨h.1, fun w X vs hX hlen hargs => Calls.mono (h.2 w X vs hX hlen hargs) ?_⟩
  rintro e w' ⟨v, rfl, hg, ho⟩
  refine ⟨v, rfl, hg, ?_⟩
  rcases ho with ⟨rfl, p, rfl⟩ | ⟨g, base, cap, c, el, rfl, _, hge, hw, hcap, hfit, hbig, h1, hr⟩
  · exact .nil
  · have hx : ¬ X g := fun hx => by have := hX g hx; omega
    have hm : els.length * sz ≤ cap * sz := Nat.mul_le_mul_right _ hcap
    refine .seq hx hw hcap (fun h => by cases h) hbig (by omega) (fun i hi => (hr i hi).1) (fun j _ hj => h1 j (by omega)) fun i hi => ?_
    exact (hr i hi).2.mono (fun q hq _ => ⟨fun hy => hq (.inl hy), rfl⟩) (Mu.later.refl _)

end
end Go.Abs
end

section
/- The value layer, part 33 (behind 27): the contracts of functions to which boxes are lent. -/
namespace Go.Abs

def LentB (m : List (Nat × Option Box)) : List (Nat × Option Box) → Prop
  | [] => True
  | (id, some b) :: l => find m id = some b ∧ b.ver = 0 ∧ LentB m l
  | (_, none) :: _ => False
/-- The values name only such boxes. -/
def inKeys (ks ids : List Nat) : Bool := ids.all fun id => ks.contains id
def inKeysM (ks : List Nat) : List (Nat × Option Box) → Bool
  | [] => true
  | (_, some b) :: l => (!b.var || inKeys ks (AV.refsL b.els)) && inKeysM ks l
  | (_, none) :: l => inKeysM ks l
def FinB (T : TT) (rs : List ResultVar) (m : List (Nat × Option Box)) (r : AV) (m' : List (Nat × Option Box)) : AExit → St → Prop
  | .exit _, _ => False
  | _, s => LentB s.mem m' ∧ (m.map (·.1) = m'.map (·.1) ∧ inKeysM (m.map (·.1)) m' = true ∧ inKeys (m.map (·.1)) r.refs = true) ∧ resL T s rs ∧ resA (resV T s rs) = r

theorem lentB_mem {m : List (Nat × Option Box)} : ∀ {m' : List (Nat × Option Box)}, LentB m m' → ∀ id ∈ m'.map (·.1), ∃ b, find m' id = some b ∧ find m id = some b ∧ b.ver = 0
  | (k, some b) :: l, h, id, hid => by
    obtain ⟨h1, h2, h3⟩ := h
    simp only [find]
    by_cases e : id = k
    · subst e
      exact ⟨b, by simp, h1, h2⟩
    · rw [if_neg e]
      refine lentB_mem h3 id ?_
      simp only [List.map_cons, List.mem_cons] at hid
      rcases hid with hid | hid
      · exact absurd hid e
      · exact hid
  | (k, none) :: l, h, id, hid => h.elim
theorem find_keys : ∀ {m : List (Nat × Option Box)} {id : Nat} {b : Box}, find m id = some b → id ∈ m.map (·.1)
  | (k, ob) :: l, id, b, h => by
    simp only [find] at h
    split at h
    · rename_i e; simp [e]
    · simp [find_keys h]
theorem keys_find : ∀ {m : List (Nat × Option Box)}, (m.all fun p => p.2.isSome) = true → ∀ {id : Nat}, id ∈ m.map (·.1) → ∃ b, find m id = some b
  | (k, ob) :: l, h, id, hid => by
    simp only [List.all_cons, Bool.and_eq_true] at h
    simp only [find]
    by_cases e : id = k
    · rw [if_pos e]
      cases ob with
      | none => simp at h
      | some b => exact ⟨b, rfl⟩
    · rw [if_neg e]
      simp only [List.map_cons, List.mem_cons] at hid
      rcases hid with hid | hid
      · exact absurd hid e
      · exact keys_find h.2 hid
theorem inKeysM_find {ks : List Nat} : ∀ {m : List (Nat × Option Box)}, inKeysM ks m = true → ∀ {id : Nat} {b : Box}, find m id = some b → b.var = true → inKeys ks (AV.refsL b.els) = true
  | (k, some b') :: l, h, id, b, hf, hv => by
    simp only [inKeysM, Bool.and_eq_true] at h
    simp only [find] at hf
    split at hf
    · cases hf
      have := h.1
      rw [hv] at this
      simpa using this
    · exact inKeysM_find h.2 hf hv
  | (k, none) :: l, h, id, b, hf, hv => by
    simp only [find] at hf
    split at hf
    · cases hf
    · exact inKeysM_find (by simpa [inKeysM] using h) hf hv
theorem inKeys_mem {ks ids : List Nat} (h : inKeys ks ids = true) : ∀ id ∈ ids, id ∈ ks := fun id hid => by
  have := List.all_eq_true.1 h id hid
  simpa using this

section
variable {P : Program} {T : TT} (hT : TOK P T) {O : List Nat}

include hT in
theorem callB_of_vc (hm : P.follows .mixedOrders = true) {f : FuncId} {fn : Func} {ac : ACode} {as : List AV} {G : Nat → List Nat} {rs : List ResultVar} {N : Nat} {m m' : List (Nat × Option Box)} {r : AV} (hf : P.funcs[f]? = some fn) (hname : (fn.name == "runtime.NumGoroutine") = false)
    (hr : fn.results.toList = rs) (hN : fn.ntmps = N) (hs : fn.body.bind (strip N G) = some ac) (hn : as.length ≤ N) (hsome : (m.all fun p => p.2.isSome) = true)
    (h : vc P T O ac (FinB T rs m r m') ⟨envOf 0 as, m⟩) : CallB P f as m r m' := by
  cases hb : fn.body with
  | none => rw [hb] at hs; cases hs
  | some c =>
  rw [hb] at hs
  subst hN hr
  refine ⟨⟨fn, hf, (fun e => by rw [e] at hname; simp at hname), by rw [hb]; simp⟩, fun w X μ vs hX hinv hver hlen hargs => ?_⟩
  have hrel : Rel ⟨w, X, blks μ, fn.ntmps, μ, []⟩ w { tmps := vs ++ Array.replicate (fn.ntmps - vs.size) undef, defers := [] } ⟨envOf 0 as, m⟩ := by
    refine ⟨μ, rfl, by simp only [Array.size_append, Array.size_replicate]; omega, hinv, fun t => ?_, Ext.refl _ _, fun g hg => .inl hg, fun b hb => ⟨hX b hb, fun hbl => hinv.out b hbl hb⟩, fun id l1 l2 h1 h2 => ?_⟩
    · rw [get_envOf, if_pos (Nat.zero_le _), Nat.sub_zero]
      by_cases ht : t < as.length
      · have := hargs t ht
        have e : (vs ++ Array.replicate (fn.ntmps - vs.size) undef).getD t undef = vs.getD t undef := by
          simp only [Array.getD_eq_getD_getElem?]
          rw [Array.getElem?_append_left (by omega)]
        rw [e]
        exact this
      · have : as.getD t .junk = .junk := by rw [List.getD_eq_getElem?_getD, List.getElem?_eq_none (Nat.le_of_not_lt ht)]; rfl
        rw [this]
        exact .junk
    · have h3 : μ id = some l1 := h1
      rw [h3] at h2
      cases h2
      exact .inl rfl
  refine calls_of_vc hT hm hf hb hs (B := ⟨w, X, blks μ, fn.ntmps, μ, []⟩) rfl rfl hrel h (fun id s' hq => hq) ?_
  intro a' w' s' hrel' hq
  have hq' : LentB s'.mem m' ∧ (m.map (·.1) = m'.map (·.1) ∧ inKeysM (m.map (·.1)) m' = true ∧ inKeys (m.map (·.1)) r.refs = true) ∧ resL T s' fn.results.toList ∧ resA (resV T s' fn.results.toList) = r := by rcases hq with hq | hq <;> exact hq
  obtain ⟨hlk, ⟨hkeys, hwm, hwr⟩, hl, heq⟩ := hq'
  obtain ⟨μf, hrel'⟩ := hrel'
  have hsame : ∀ id ∈ m.map (·.1), ∃ l, μf id = some l ∧ μ id = some l := by
    intro id hid
    obtain ⟨b0, hb0⟩ := keys_find hsome hid
    obtain ⟨l0, h0, hv0, _⟩ := hinv.box id b0 hb0
    rw [hkeys] at hid
    obtain ⟨b, _, h2, h3⟩ := lentB_mem hlk id hid
    obtain ⟨l, h4, h5, _⟩ := hrel'.inv.box id b h2
    refine ⟨l, h4, ?_⟩
    rcases hrel'.kept id l0 l h0 h4 with e | e
    · rw [e]; exact h0
    · omega
  have hsub : ∀ q, ¬ Yof X μf q → q < w'.heap.size → ¬ Yof X μ q ∧ w'.heap[q]? = w'.heap[q]? := by
    intro q hq _
    refine ⟨fun hy => hq ?_, rfl⟩
    rcases hy with hy | ⟨i, l, n, h1, h2⟩
    · exact .inl hy
    · have hi : i ∈ m.map (·.1) := by
        cases hfi : find m i with
        | none => rw [hinv.no i hfi] at h1; cases h1
        | some b => exact find_keys hfi
      obtain ⟨l', h3, h4⟩ := hsame i hi
      rw [h1] at h4
      cases h4
      exact .inr ⟨i, l, n, h3, h2⟩
  have hon : ∀ {x : AV} {v : Value}, inKeys (m.map (·.1)) x.refs = true → Rep w' (Yof X μf) μf x v → Rep w' (Yof X μ) μ x v := by
    intro x v hx hrp
    refine (hrp.on (μ' := μ) fun id hid => ?_).mono hsub (Mu.later.refl _)
    obtain ⟨l, h1, h2⟩ := hsame id (inKeys_mem hx id hid)
    rw [h1, h2]
  have hinv' : Inv w' X μ m' := by
    refine ⟨fun id hid => ?_, fun id b hid => ?_, hinv.apart, hinv.out⟩
    · cases hfi : find m id with
      | none => exact hinv.no id hfi
      | some b =>
        have := find_keys hfi
        rw [hkeys] at this
        obtain ⟨b', h1, _⟩ := lentB_mem hlk id this
        rw [hid] at h1; cases h1
    · have hk := find_keys hid
      obtain ⟨b', h1, h2, h3⟩ := lentB_mem hlk id hk
      rw [hid] at h1
      cases h1
      rw [← hkeys] at hk
      obtain ⟨l, h4, h5⟩ := hsame id hk
      obtain ⟨l', h6, h7, h8, hh⟩ := hrel'.inv.box id b h2
      rw [h4] at h6
      cases h6
      refine ⟨l, h5, h7, h8, ?_⟩
      unfold Holds at hh ⊢
      refine ⟨hh.1, ?_⟩
      have h2 := hh.2
      cases hbk : l.blk with
      | none => rw [hbk] at h2; exact h2
      | some gn =>
        obtain ⟨g', n'⟩ := gn
        rw [hbk] at h2
        refine ⟨fun hz => ?_, fun hz => ?_⟩
        · obtain ⟨c, el, hw, hcs, hfit, h1, hr⟩ := h2.1 hz
          refine ⟨c, el, hw, hcs, hfit, h1, fun i hi => ⟨(hr i hi).1, ?_⟩⟩
          have h9 := (hr i hi).2
          cases hv : b.var with
          | true =>
            rw [hv] at h9
            have hal := inKeysM_find hwm hid hv
            refine hon ?_ h9
            unfold inKeys
            rw [List.all_eq_true]
            intro id' hid'
            have := inKeys_mem hal id' (AV.mem_refsL hi hid')
            simpa using this
          | false => rw [hv] at h9; exact h9.mono hsub (Mu.later.refl _)
        · obtain ⟨hv0, es, clock, hw, hs, hr⟩ := h2.2 hz
          exact ⟨hv0, es, clock, hw, hs, fun i hi => (hr i hi).mono hsub (Mu.later.refl _)⟩
  obtain ⟨vl, hrun, hvl, hrep⟩ := run_results hT hrel' fn.results.toList hl
  have hrun2 : (results fn a'.tmps).run P w' = .ok (if h : vl.length = 1 then vl[0]'(by omega) else .tuple vl.toArray) w' := by
    rw [results_eq, Sem.run_bind, Array.mapM_eq_mapM_toList, Sem.run_map, hrun]
    simp only [Result.andThen_ok, Sem.run_pure, List.size_toArray, List.getElem_toArray]
  refine ⟨_, hrun2, _, rfl, hrel'.ext, hinv', hon hwr ?_⟩
  rw [← heq]
  have hlen2 : (resV T s' fn.results.toList).length = vl.length := by rw [resV_length, hvl]
  by_cases h1 : vl.length = 1
  · rw [dif_pos h1]
    cases hq : resV T s' fn.results.toList with
    | nil => rw [hq] at hlen2; simp at hlen2; omega
    | cons x l =>
      cases l with
      | nil =>
        have := hrep 0 (by omega)
        rw [hq] at this
        simp only [resA]
        simpa [List.getD_eq_getElem?_getD, h1] using this
      | cons y l => rw [hq] at hlen2; simp at hlen2; omega
  · rw [dif_neg h1]
    have hra : resA (resV T s' fn.results.toList) = .tup (resV T s' fn.results.toList) := by
      cases hq : resV T s' fn.results.toList with
      | nil => rfl
      | cons x l =>
        cases l with
        | nil => rw [hq] at hlen2; simp at hlen2; omega
        | cons y l => rfl
    rw [hra]
    refine .tup (by simp [hlen2]) fun i hi => ?_
    have := hrep i (by rw [resV_length] at hi; exact hi)
    simpa [Array.getD_eq_getD_getElem?, List.getD_eq_getElem?_getD] using this
end
end Go.Abs
end

section
/- The value layer, part 24: a table of types that is right; the contract of a given function. -/
namespace Go.Abs

/-! ### zero values -/
def zOK1 : AV → Value → Bool
  | .raw (.int k a), .int k' b => decide (k = k') && decide (a = b)
  | .raw (.bool a), .bool b => a == b
  | .raw (.pointer none), .pointer none => true
  | .seq _ [] _, .slice none 0 0 => true
  | .raw (.slice none 0 0), .slice none 0 0 => true
  | .raw (.map none), .map none => true
  | .raw (.string a), .string b => decide (a = b)
  | .raw .nilFunc, .nilFunc => true
  | .junk, _ => true
  | _, _ => false
def zOKL : List AV → List Value → Bool
  | [], [] => true
  | a :: l, v :: vs => v.oneCell' && zOK1 a v && zOKL l vs
  | _, _ => false
def zOK : AV → Value → Bool
  | .agg l, .agg cs => zOKL l cs.toList
  | .agg _, _ => false
  | z, v => v.oneCell' && zOK1 z v

theorem zOK1_rep {w : World} {Y : Nat → Prop} {μ : Mu} {z : AV} {v : Value} (h : zOK1 z v = true) : Rep w Y μ z v := by
  unfold zOK1 at h
  split at h
  · simp only [Bool.and_eq_true, decide_eq_true_eq] at h
    obtain ⟨rfl, rfl⟩ := h; exact .raw rfl
  · simp only [beq_iff_eq] at h; subst h; exact .raw rfl
  · exact .raw rfl
  · exact .nil
  · exact .raw rfl
  · exact .raw rfl
  · simp only [decide_eq_true_eq] at h; subst h; exact .raw rfl
  · exact .raw rfl
  · exact .junk
  · cases h

theorem zOKL_spec : ∀ {l : List AV} {vs : List Value}, zOKL l vs = true → vs.length = l.length ∧ ∀ i, i < l.length → (vs.getD i undef).oneCell' = true ∧ zOK1 (l.getD i .junk) (vs.getD i undef) = true
  | [], [], _ => ⟨rfl, fun i hi => by simp at hi⟩
  | a :: l, v :: vs, h => by
    simp only [zOKL, Bool.and_eq_true] at h
    obtain ⟨h1, h2⟩ := zOKL_spec h.2
    refine ⟨by simp [h1], fun i hi => ?_⟩
    cases i with
    | zero => simpa using h.1
    | succ i => simpa using h2 i (by simpa using hi)
  | [], _ :: _, h => by simp [zOKL] at h
  | _ :: _, [], h => by simp [zOKL] at h

theorem toArr_getD (cs : Array Value) (i : Nat) : cs.toList.getD i undef = cs.getD i undef := by
  simp [Array.getD_eq_getD_getElem?, List.getD_eq_getElem?_getD]

theorem zOK_spec {z : AV} {v : Value} {n : Nat} (h : zOK z v = true) (hn : v.cells.size = n) : (∀ j, j < n → (v.cells.getD j undef).oneCell' = true) ∧ (∀ w Y μ, Rep w Y μ z v) ∧
    ∀ w Y μ j, j < n → Rep w Y μ ((cellsOf z).getD j .junk) (v.cells.getD j undef) := by
  unfold zOK at h
  split at h
  · rename_i l cs
    obtain ⟨h1, h2⟩ := zOKL_spec h
    simp only [Value.cells] at hn ⊢
    have hl : l.length = n := by rw [← hn, ← h1]; simp
    have h3 : ∀ i, i < l.length → (cs.getD i undef).oneCell' = true ∧ zOK1 (l.getD i .junk) (cs.getD i undef) = true := fun i hi => by
      have := h2 i hi
      rwa [toArr_getD] at this
    exact ⟨fun j hj => (h3 j (by omega)).1, fun w Y μ => .agg (by omega) (fun i hi => (h3 i hi).1) (fun i hi => zOK1_rep (h3 i hi).2), fun w Y μ j hj => zOK1_rep (h3 j (by omega)).2⟩
  · cases h
  · rename_i hna1 hna2
    simp only [Bool.and_eq_true] at h
    obtain ⟨h1, h2⟩ := h
    have hc : v.cells = #[v] := by cases v <;> first | rfl | (simp [Value.oneCell'] at h1)
    have hz : cellsOf z = [z] := by cases z <;> first | rfl | (exfalso; simp_all; done)
    rw [hc] at hn ⊢
    rw [hz]
    simp only [List.size_toArray, List.length_cons, List.length_nil, Nat.zero_add] at hn
    subst hn
    refine ⟨fun j hj => ?_, fun w Y μ => zOK1_rep h2, fun w Y μ j hj => ?_⟩
    · have : j = 0 := by omega
      subst this; simpa using h1
    · have : j = 0 := by omega
      subst this; simpa using zOK1_rep h2

def descOK (P : Program) : TK → TypeDesc → Bool
  | .slice e, .slice e' => e == e'
  | .struct fs, .struct fields => match fields.toList.mapM (fun f => (P.info? f.type).map fun i => (f.offset, i.size, f.type)) with
    | some l => decide (l = fs)
    | none => false
  | .array n e, .array n' e' => n == n' && e == e'
  | .int k, .int k' => decide (k = k')
  | .bool, .bool => true
  | .map k e .str, .map k' e' => k == k' && e == e' && (match P.underlying k with | some .string => true | _ => false)
  | .map k e .two, .map k' e' => k == k' && e == e' && (match P.underlying k with | some (.array 2 x) => (match P.underlying x with | some (.int .i64) => true | _ => false) && P.plainKey x && decide (P.cellsOf x = 1) && decide (P.cellsOf k = 2) && decide (0 < P.types.size) | _ => false)
  | .str, .string => true
  | .flat, .struct _ => false
  | .flat, .array _ _ => false
  | .flat, .slice _ => false
  | .flat, _ => true
  | _, _ => false

theorem descOK_spec {P : Program} {k : TK} {d : TypeDesc} (h : descOK P k d = true) : k.desc P d := by
  unfold descOK at h
  split at h
  · simp only [beq_iff_eq] at h; subst h; rfl
  · split at h
    · rename_i hl
      simp only [decide_eq_true_eq] at h; subst h
      exact ⟨_, rfl, hl⟩
    · cases h
  · simp only [Bool.and_eq_true, beq_iff_eq] at h
    obtain ⟨rfl, rfl⟩ := h; rfl
  · simp only [decide_eq_true_eq] at h; subst h; rfl
  · rfl
  · simp only [Bool.and_eq_true, beq_iff_eq] at h
    obtain ⟨⟨rfl, rfl⟩, h3⟩ := h
    refine ⟨rfl, keyR_str ?_⟩
    split at h3
    · rename_i hu; exact hu
    · cases h3
  · simp only [Bool.and_eq_true, beq_iff_eq] at h
    obtain ⟨⟨rfl, rfl⟩, h3⟩ := h
    refine ⟨rfl, ?_⟩
    split at h3
    · rename_i x hu
      simp only [Bool.and_eq_true, decide_eq_true_eq] at h3
      obtain ⟨⟨⟨⟨h4, h5⟩, h6⟩, h7⟩, h8⟩ := h3
      split at h4
      · rename_i hx
        exact keyR_two ⟨hu, h5, h6, h7⟩ hx ⟨_, (Nat.succ_pred_eq_of_pos h8).symm⟩
      · cases h4
    · cases h3
  · rfl
  · cases h
  · cases h
  · cases h
  · rename_i h1 h2 h3
    exact ⟨fun fs e => h1 fs e, fun n e e' => h2 n e e', fun e e' => h3 e e'⟩
  · cases h

def rowOK (P : Program) (t : Nat) (ti : TI) : Bool :=
  match P.info? t with
  | some i => match i.zero with
    | some z => i.size == ti.size && i.bytes == ti.bytes && z.cells.size == ti.size && zOK ti.zero z && ti.zero.width == ti.size && decide (0 < ti.size) && decide (ti.bytes ≤ 4096) &&
      match P.underlying t with
      | some d => descOK P ti.kind d
      | none => false
    | none => false
  | none => false

theorem rowOK_spec {P : Program} {t : Nat} {ti : TI} (h : rowOK P t ti = true)
    (he : ti.eq = true → ∀ (xs ys : Array Value) (b : Bool) (x y : Operand) (w : World), xs.toList.map vkind = (cellsOf ti.zero).map akind → vsEq xs.toList ys.toList = some b →
      (do eqGuard .eql t x y (.agg xs) (.agg ys); binOp .eql t (.agg xs) (.agg ys) : Sem Value).run P w = .ok (.bool b) w ∧
      (do eqGuard .neq t x y (.agg xs) (.agg ys); binOp .neq t (.agg xs) (.agg ys) : Sem Value).run P w = .ok (.bool (!b)) w) : TOK1 P t ti := by
  unfold rowOK at h
  split at h
  · rename_i i hi
    split at h
    · rename_i z hz
      simp only [Bool.and_eq_true, beq_iff_eq, decide_eq_true_eq] at h
      obtain ⟨⟨⟨⟨⟨⟨⟨h1, h2⟩, h3⟩, h4⟩, h5⟩, h6⟩, h7⟩, h8⟩ := h
      obtain ⟨k1, k2, k3⟩ := zOK_spec h4 h3
      split at h8
      · rename_i d hd
        exact ⟨⟨i, z, hi, h1, h2, hz, h3, k1, k2, k3⟩, h5, ⟨d, hd, descOK_spec h8⟩, h6, h7, he⟩
      · cases h8
    · cases h
  · cases h

def findT : List (Nat × TI) → Nat → Option TI
  | [], _ => none
  | r :: l, t => if t = r.1 then some r.2 else findT l t

theorem findT_mem {t : Nat} {ti : TI} : ∀ {l : List (Nat × TI)}, findT l t = some ti → (t, ti) ∈ l
  | [], h => by simp [findT] at h
  | r :: l, h => by
    simp only [findT] at h
    split at h
    · rename_i e; cases h; subst e; simp
    · exact List.mem_cons_of_mem _ (findT_mem h)

def EqR (P : Program) (t : Nat) (z : AV) : Prop := ∀ (xs ys : Array Value) (b : Bool) (x y : Operand) (w : World), xs.toList.map vkind = (cellsOf z).map akind → vsEq xs.toList ys.toList = some b →
      (do eqGuard .eql t x y (.agg xs) (.agg ys); binOp .eql t (.agg xs) (.agg ys) : Sem Value).run P w = .ok (.bool b) w ∧
      (do eqGuard .neq t x y (.agg xs) (.agg ys); binOp .neq t (.agg xs) (.agg ys) : Sem Value).run P w = .ok (.bool (!b)) w

theorem tok_of {P : Program} (l : List (Nat × TI)) (h : (l.all fun r => rowOK P r.1 r.2) = true) (he : ∀ r ∈ l, r.2.eq = true → EqR P r.1 r.2.zero) : TOK P (findT l) := by
  intro t ti ht
  have hm := findT_mem ht
  exact rowOK_spec (List.all_eq_true.1 h _ hm) fun e => he _ hm e

/-! ### equality of plain structs and arrays -/
def kindT (P : Program) (t : Nat) : Option (Option IntKind) := match P.underlying t with | some (.int k) => some (some k) | some .bool => some none | _ => none
def plainF (P : Program) : Nat → List Field → List (Option (Option IntKind)) → Bool
  | _, [], [] => true
  | k, f :: fs, e :: es => decide (f.name ≠ "_") && f.offset == k && (kindT P f.type).isSome && decide (kindT P f.type = e) && plainF P (k + 1) fs es
  | _, _, _ => false

theorem eqIn_plain {P : Program} {d t : Nat} {x y : Value} {b : Bool} {w : World} (hs : (kindT P t).isSome = true) (hx : vkind x = kindT P t) (h : vEq x y = some b) :
    (Op.equalIn (d + 1) t x y).run P w = .ok b w := by
  unfold kindT at hs hx
  split at hs
  · rename_i k hk
    unfold vEq at h
    split at h
    · split at h
      · rename_i k1 a k2 c e
        subst e; cases h
        rw [run_equalIn_int _ _ _ _ _ _ _ hk]
        congr 1
      · cases h
    · rw [hk] at hx; simp [vkind] at hx
    · cases h
  · rename_i hk
    unfold vEq at h
    split at h
    · rw [hk] at hx; simp [vkind] at hx
    · cases h
      exact run_equalIn_bool' _ _ _ _ _ hk
    · cases h
  · cases hs

theorem run_part_plain {P : Program} {t : Nat} {cs : Array Value} {o : Nat} {w : World} (hs : (kindT P t).isSome = true) {v : Value} (hv : cs[o]? = some v) :
    (part t cs o).run P w = .ok v w := by
  unfold kindT at hs
  split at hs
  · rename_i k hk
    simp [part, isAgg, run_underlying hk, hv]
  · rename_i hk
    simp [part, isAgg, run_underlying hk, hv]
  · cases hs

theorem eqFields_plain {P : Program} {d : Nat} {w : World} {xs ys : Array Value} : ∀ {fs : List Field} {es : List (Option (Option IntKind))} {k : Nat} {l m : List Value} {b : Bool},
    plainF P k fs es = true → l = xs.toList.drop k → m = ys.toList.drop k → l.map vkind = es → vsEq l m = some b → (Op.eqFields (d + 1) xs ys fs).run P w = .ok b w
  | [], es, k, l, m, b, hp, hl, hm, hk, h => by
    cases es with
    | nil =>
      have : l = [] := by simpa using hk
      rw [this] at h
      cases m with
      | nil => simp only [vsEq] at h; cases h; rfl
      | cons y ys => simp [vsEq] at h
    | cons e es => simp [plainF] at hp
  | f :: fs, [], k, l, m, b, hp, hl, hm, hk, h => by simp [plainF] at hp
  | f :: fs, e :: es, k, l, m, b, hp, hl, hm, hk, h => by
    simp only [plainF, Bool.and_eq_true, decide_eq_true_eq, beq_iff_eq] at hp
    obtain ⟨⟨⟨⟨h1, h2⟩, h3⟩, h4⟩, h5⟩ := hp
    cases l with
    | nil => simp at hk
    | cons x l =>
      cases m with
      | nil => simp [vsEq] at h
      | cons y m =>
        simp only [List.map_cons, List.cons.injEq] at hk
        obtain ⟨hk1, hk2⟩ := hk
        have hx : xs[k]? = some x := by
          have : (xs.toList.drop k)[0]? = some x := by rw [← hl]; rfl
          simpa using this
        have hy : ys[k]? = some y := by
          have : (ys.toList.drop k)[0]? = some y := by rw [← hm]; rfl
          simpa using this
        have hl' : l = xs.toList.drop (k + 1) := by rw [← List.drop_drop, ← hl]; rfl
        have hm' : m = ys.toList.drop (k + 1) := by rw [← List.drop_drop, ← hm]; rfl
        simp only [vsEq] at h
        split at h
        · rename_i a c ha hc
          cases h
          have ih := eqFields_plain (P := P) (d := d) (w := w) (xs := xs) (ys := ys) h5 hl' hm' hk2 hc
          simp only [Op.eqFields]
          rw [if_pos h1, h2]
          simp only [Sem.run_bind, run_part_plain h3 hx, run_part_plain h3 hy, Result.andThen_ok, eqIn_plain (d := d) (w := w) h3 (hk1.trans h4.symm) ha]
          cases a
          · simp
          · simpa using ih
        · cases h

theorem eqR_struct {P : Program} {t : Nat} {z : AV} (hu : P.underlying t = some (.struct (P.fieldsOf t))) (hst : P.stoodInHeld t = false) (hg : P.eqGuardType P.depth t = false)
    (hp : plainF P 0 (P.fieldsOf t).toList ((cellsOf z).map akind) = true) : EqR P t z := by
  intro xs ys b x y w hk hv
  have he : ∀ w, (Op.equalIn 10000 t (.agg xs) (.agg ys)).run P w = .ok b w := fun w => by
    rw [run_equalIn_struct w 9999 t xs ys hu hst]
    exact eqFields_plain (d := 9998) hp (by simp) (by simp) hk hv
  constructor
  · rw [Sem.run_bind, run_eqGuard_agg w .eql t x y xs ys hg, Result.andThen_ok, run_eql_struct, he]; rfl
  · rw [Sem.run_bind, run_eqGuard_agg w .neq t x y xs ys hg, Result.andThen_ok, run_neq_struct, he]; rfl

/-! ### the contract of a given function -/
theorem callP_of {P : Program} {T : TT} {O : List Nat} (hT : TOK P T) (hm : P.follows .mixedOrders = true) {f : FuncId} {fn : Func} {ac : ACode} {args : List AV} {r : AV} {N : Nat} {G : Nat → List Nat} {rs : List ResultVar}
    (hf : P.funcs[f]? = some fn) (hname : (fn.name == "runtime.NumGoroutine") = false) (hr : fn.results.toList = rs) (hN : fn.ntmps = N) (hs : fn.body.bind (strip N G) = some ac) (hn : args.length ≤ N)
    (h : vc P T O ac (Fin T rs r) ⟨envOf 0 args, []⟩) : CallP P f args r := by
  cases hb : fn.body with
  | none => rw [hb] at hs; cases hs
  | some c =>
    rw [hb] at hs
    subst hN hr
    exact callP_of_vc hT hm hf hb (fun e => by rw [e] at hname; simp at hname) hs hn h

theorem callO_of {P : Program} {T : TT} {O : List Nat} (hT : TOK P T) (hm : P.follows .mixedOrders = true) {f : FuncId} {fn : Func} {ac : ACode} {args : List AV} {sz : Nat} {els : List AV} {N : Nat} {G : Nat → List Nat} {rs : List ResultVar}
    (hf : P.funcs[f]? = some fn) (hname : (fn.name == "runtime.NumGoroutine") = false) (hr : fn.results.toList = rs) (hN : fn.ntmps = N) (hs : fn.body.bind (strip N G) = some ac) (hn : args.length ≤ N)
    (h : vc P T O ac (FinO rs sz els) ⟨envOf 0 args, []⟩) : CallO P f args sz els := callO_of_vc hT hm hf hname hr hN hs hn h
theorem callT_of {P : Program} {T : TT} {O : List Nat} (hT : TOK P T) (hm : P.follows .mixedOrders = true) {f : FuncId} {fn : Func} {ac : ACode} {args : List AV} {sz : Nat} {els : List AV} {u : Value} {N : Nat} {G : Nat → List Nat} {rs : List ResultVar}
    (hf : P.funcs[f]? = some fn) (hname : (fn.name == "runtime.NumGoroutine") = false) (hr : fn.results.toList = rs) (hN : fn.ntmps = N) (hs : fn.body.bind (strip N G) = some ac) (hn : args.length ≤ N) (hu : u.oneCell' = true)
    (h : vc P T O ac (FinT rs sz els u) ⟨envOf 0 args, []⟩) : CallT P f args sz els u := callT_of_vc hT hm hu hf hname hr hN hs hn h
theorem callL_of {P : Program} {T : TT} {O : List Nat} (hT : TOK P T) (hm : P.follows .mixedOrders = true) {f : FuncId} {fn : Func} {ac : ACode} {pre suf : List AV} {sz : Nat} {els els' : List AV} {r : LRet} {N : Nat} {G : Nat → List Nat} {rs : List ResultVar}
    (hf : P.funcs[f]? = some fn) (hname : (fn.name == "runtime.NumGoroutine") = false) (hr : fn.results.toList = rs) (hN : fn.ntmps = N) (hs : fn.body.bind (strip N G) = some ac) (hn : (pre ++ .sl lid 0 0 els.length :: suf).length ≤ N)
    (h : vc P T O ac (FinL T rs sz r els') ⟨envOf 0 (pre ++ .sl lid 0 0 els.length :: suf), [(lid, some ⟨sz, els, 0, false⟩)]⟩) : CallL P f pre sz els suf r els' := callL_of_vc hT hm hf hname hr hN hs hn h

theorem callB_of {P : Program} {T : TT} {O : List Nat} (hT : TOK P T) (hm : P.follows .mixedOrders = true) {f : FuncId} {fn : Func} {ac : ACode} {as : List AV} {r : AV} {N : Nat} {G : Nat → List Nat} {rs : List ResultVar} {m m' : List (Nat × Option Box)}
    (hf : P.funcs[f]? = some fn) (hname : (fn.name == "runtime.NumGoroutine") = false) (hr : fn.results.toList = rs) (hN : fn.ntmps = N) (hs : fn.body.bind (strip N G) = some ac) (hn : as.length ≤ N) (hsome : (m.all fun p => p.2.isSome) = true)
    (h : vc P T O ac (FinB T rs m r m') ⟨envOf 0 as, m⟩) : CallB P f as m r m' := callB_of_vc hT hm hf hname hr hN hs hn hsome h
end Go.Abs
end

section
/- The value layer, part 37 (behind 24): equality of arrays of two numbers. -/
namespace Go.Abs

/-! ### tests that are known -/
theorem CondK.tt {a b : Prop} (h : a) : CondK (.raw (.bool true)) a b := CondK.intro (fun _ => h) (fun h => by simp at h)
theorem CondK.ff {a b : Prop} (h : b) : CondK (.raw (.bool false)) a b := CondK.intro (fun h => by simp at h) (fun _ => h)
end Go.Abs
end

section
/- The value layer, part 25: how a proof steps through code (rules for simp). -/
namespace Go.Abs

section
variable {P : Program} {T : TT} {O : List Nat} {Q : AExit → St → Prop} {s : St}
@[simp] theorem PreK_true {K : Prop} : PreK True K = K := by simp [PreK]
@[simp] theorem vc_skip : vc P T O .skip Q s = Q .normal s := Eq.trans rfl rfl
@[simp] theorem vc_reg {gs : List Nat} {ops : List AOper} : vc P T O (.reg gs ops) Q s = frzs gs (vcOps P T O ops (Q .normal)) s := Eq.trans rfl rfl
@[simp] theorem vc_draw {gs : List Nat} {ops : List AOper} {pairs : List (Nat × Nat)} : vc P T O (.draw gs ops pairs) Q s = frzs gs (vcDraw P T O ops (fun acc s' => PreK (apartAll acc pairs = true) (Q .normal s')) []) s := Eq.trans rfl rfl
@[simp] theorem vc_seq {a b : ACode} : vc P T O (.seq a b) Q s = vc P T O a (thenQ (vc P T O b Q) Q) s := Eq.trans rfl rfl
@[simp] theorem vc_cond {c : Operand} {a b : ACode} : vc P T O (.cond c a b) Q s = CondK (ev s.env c) (vc P T O a Q s) (vc P T O b Q s) := Eq.trans rfl rfl
@[simp] theorem vc_block {i : Nat} {b : ACode} : vc P T O (.block i b) Q s = vc P T O b (blockQ i Q) s := Eq.trans rfl rfl
@[simp] theorem vc_loop {b : ACode} : vc P T O (.loop b) Q s = LoopK (vc P T O b) Q s := Eq.trans rfl rfl
@[simp] theorem vc_exit {i : Nat} : vc P T O (.exit i) Q s = Q (.exit i) s := Eq.trans rfl rfl
@[simp] theorem vc_ret : vc P T O .ret Q s = Q .ret s := Eq.trans rfl rfl
@[simp] theorem thenQ_normal {K : St → Prop} : thenQ K Q .normal s = K s := Eq.trans rfl rfl
@[simp] theorem thenQ_exit {K : St → Prop} {i : Nat} : thenQ K Q (.exit i) s = Q (.exit i) s := Eq.trans rfl rfl
@[simp] theorem thenQ_ret {K : St → Prop} : thenQ K Q .ret s = Q .ret s := Eq.trans rfl rfl
@[simp] theorem blockQ_normal {i : Nat} : blockQ i Q .normal s = Q .normal s := Eq.trans rfl rfl
@[simp] theorem blockQ_exit {i j : Nat} : blockQ i Q (.exit j) s = if j = i then Q .normal s else Q (.exit j) s := Eq.trans rfl rfl
@[simp] theorem blockQ_ret {i : Nat} : blockQ i Q .ret s = Q .ret s := Eq.trans rfl rfl
@[simp] theorem vcOps_nil {K : St → Prop} : vcOps P T O [] K s = K s := Eq.trans rfl rfl
@[simp] theorem isCall_move (x : Operand) : isCall (.move x) = none := Eq.trans rfl rfl
@[simp] theorem isNilCmp_move (x : Operand) : isNilCmp (.move x) = none := Eq.trans rfl rfl
@[simp] theorem isCall_assign (x : Operand) : isCall (.assign x) = none := Eq.trans rfl rfl
@[simp] theorem isNilCmp_assign (x : Operand) : isNilCmp (.assign x) = none := Eq.trans rfl rfl
@[simp] theorem isCall_pick (c a b : Operand) : isCall (.pick c a b) = none := Eq.trans rfl rfl
@[simp] theorem isNilCmp_pick (c a b : Operand) : isNilCmp (.pick c a b) = none := Eq.trans rfl rfl
@[simp] theorem isCall_alloc (t : Nat) : isCall (.alloc t) = none := Eq.trans rfl rfl
@[simp] theorem isNilCmp_alloc (t : Nat) : isNilCmp (.alloc t) = none := Eq.trans rfl rfl
@[simp] theorem isCall_box (t : Nat) (x : Operand) : isCall (.box t x) = none := Eq.trans rfl rfl
@[simp] theorem isNilCmp_box (t : Nat) (x : Operand) : isNilCmp (.box t x) = none := Eq.trans rfl rfl
@[simp] theorem isCall_build (t : Nat) (p : Array (Nat × Operand)) : isCall (.build t p) = none := Eq.trans rfl rfl
@[simp] theorem isNilCmp_build (t : Nat) (p : Array (Nat × Operand)) : isNilCmp (.build t p) = none := Eq.trans rfl rfl
@[simp] theorem isCall_buildSlice (t n : Nat) (p : Array (Nat × Operand)) : isCall (.buildSlice t n p) = none := Eq.trans rfl rfl
@[simp] theorem isNilCmp_buildSlice (t n : Nat) (p : Array (Nat × Operand)) : isNilCmp (.buildSlice t n p) = none := Eq.trans rfl rfl
@[simp] theorem isCall_load (t : Nat) (x : Operand) : isCall (.load t x) = none := Eq.trans rfl rfl
@[simp] theorem isNilCmp_load (t : Nat) (x : Operand) : isNilCmp (.load t x) = none := Eq.trans rfl rfl
@[simp] theorem isCall_store (t : Nat) (x y : Operand) : isCall (.store t x y) = none := Eq.trans rfl rfl
@[simp] theorem isNilCmp_store (t : Nat) (x y : Operand) : isNilCmp (.store t x y) = none := Eq.trans rfl rfl
@[simp] theorem isCall_nilCheck (x : Operand) : isCall (.nilCheck x) = none := Eq.trans rfl rfl
@[simp] theorem isNilCmp_nilCheck (x : Operand) : isNilCmp (.nilCheck x) = none := Eq.trans rfl rfl
@[simp] theorem isCall_unOp (o : UnOp) (t : Nat) (x : Operand) : isCall (.unOp o t x) = none := Eq.trans rfl rfl
@[simp] theorem isNilCmp_unOp (o : UnOp) (t : Nat) (x : Operand) : isNilCmp (.unOp o t x) = none := Eq.trans rfl rfl
@[simp] theorem isCall_convert (t u : Nat) (x : Operand) : isCall (.convert t u x) = none := Eq.trans rfl rfl
@[simp] theorem isNilCmp_convert (t u : Nat) (x : Operand) : isNilCmp (.convert t u x) = none := Eq.trans rfl rfl
@[simp] theorem isCall_makeFunc (fn : Fn) (a b : Array Operand) : isCall (.makeFunc fn a b) = none := Eq.trans rfl rfl
@[simp] theorem isNilCmp_makeFunc (fn : Fn) (a b : Array Operand) : isNilCmp (.makeFunc fn a b) = none := Eq.trans rfl rfl
@[simp] theorem isCall_makeSlice (t : Nat) (x y : Operand) : isCall (.makeSlice t x y) = none := Eq.trans rfl rfl
@[simp] theorem isNilCmp_makeSlice (t : Nat) (x y : Operand) : isNilCmp (.makeSlice t x y) = none := Eq.trans rfl rfl
@[simp] theorem isCall_slice (t : Nat) (x : Operand) (a b c : Option Operand) : isCall (.slice t x a b c) = none := Eq.trans rfl rfl
@[simp] theorem isNilCmp_slice (t : Nat) (x : Operand) (a b c : Option Operand) : isNilCmp (.slice t x a b c) = none := Eq.trans rfl rfl
@[simp] theorem isCall_fieldAddr (t : Nat) (x : Operand) (k : Nat) : isCall (.fieldAddr t x k) = none := Eq.trans rfl rfl
@[simp] theorem isNilCmp_fieldAddr (t : Nat) (x : Operand) (k : Nat) : isNilCmp (.fieldAddr t x k) = none := Eq.trans rfl rfl
@[simp] theorem isCall_field (t : Nat) (x : Operand) (k : Nat) : isCall (.field t x k) = none := Eq.trans rfl rfl
@[simp] theorem isNilCmp_field (t : Nat) (x : Operand) (k : Nat) : isNilCmp (.field t x k) = none := Eq.trans rfl rfl
@[simp] theorem isCall_indexAddr (t : Nat) (x y : Operand) : isCall (.indexAddr t x y) = none := Eq.trans rfl rfl
@[simp] theorem isNilCmp_indexAddr (t : Nat) (x y : Operand) : isNilCmp (.indexAddr t x y) = none := Eq.trans rfl rfl
@[simp] theorem isCall_index (t : Nat) (x y : Operand) : isCall (.index t x y) = none := Eq.trans rfl rfl
@[simp] theorem isNilCmp_index (t : Nat) (x y : Operand) : isNilCmp (.index t x y) = none := Eq.trans rfl rfl
@[simp] theorem isCall_extract (x : Operand) (k : Nat) : isCall (.extract x k) = none := Eq.trans rfl rfl
@[simp] theorem isNilCmp_extract (x : Operand) (k : Nat) : isNilCmp (.extract x k) = none := Eq.trans rfl rfl
@[simp] theorem isCall_call {f : Operand} {a : Array Operand} {t : Array Nat} : isCall (.call ⟨.value f, a, t⟩) = some (f, t.toList, a.toList) := Eq.trans rfl rfl
@[simp] theorem isCall_builtin {b : Builtin} {a : Array Operand} {t : Array Nat} : isCall (.call ⟨.builtin b, a, t⟩) = none := Eq.trans rfl rfl
@[simp] theorem isNilCmp_call {c : Call} : isNilCmp (.call c) = none := Eq.trans rfl rfl
@[simp] theorem isCall_binOp {o : BinOp} {t u : Nat} {x y : Operand} : isCall (.binOp o t x y u) = none := Eq.trans rfl rfl
@[simp] theorem isNilCmp_tmp {o : BinOp} {t u k : Nat} {x : Operand} : isNilCmp (.binOp o t x (.tmp k) u) = none := by cases o <;> rfl
@[simp] theorem isNilCmp_int {o : BinOp} {t u : Nat} {k : IntKind} {n : Int} {x : Operand} : isNilCmp (.binOp o t x (.const (.int k n)) u) = none := by cases o <;> rfl
@[simp] theorem isNilCmp_bool {o : BinOp} {t u : Nat} {b : Bool} {x : Operand} : isNilCmp (.binOp o t x (.const (.bool b)) u) = none := by cases o <;> rfl
@[simp] theorem isNilCmp_agg {o : BinOp} {t u : Nat} {c : Array Value} {x : Operand} : isNilCmp (.binOp o t x (.const (.agg c)) u) = none := by cases o <;> rfl
@[simp] theorem isMv_move (x : Operand) : isMv (.move x) = true := Eq.trans rfl rfl
@[simp] theorem isMv_assign (x : Operand) : isMv (.assign x) = true := Eq.trans rfl rfl
@[simp] theorem isMv_pick (c a b : Operand) : isMv (.pick c a b) = false := Eq.trans rfl rfl
@[simp] theorem isMv_alloc (t : Nat) : isMv (.alloc t) = false := Eq.trans rfl rfl
@[simp] theorem isMv_box (t : Nat) (x : Operand) : isMv (.box t x) = false := Eq.trans rfl rfl
@[simp] theorem isMv_build (t : Nat) (p : Array (Nat × Operand)) : isMv (.build t p) = false := Eq.trans rfl rfl
@[simp] theorem isMv_load (t : Nat) (x : Operand) : isMv (.load t x) = false := Eq.trans rfl rfl
@[simp] theorem isMv_store (t : Nat) (x y : Operand) : isMv (.store t x y) = false := Eq.trans rfl rfl
@[simp] theorem isMv_nilCheck (x : Operand) : isMv (.nilCheck x) = false := Eq.trans rfl rfl
@[simp] theorem isMv_unOp (o : UnOp) (t : Nat) (x : Operand) : isMv (.unOp o t x) = false := Eq.trans rfl rfl
@[simp] theorem isMv_convert (t u : Nat) (x : Operand) : isMv (.convert t u x) = false := Eq.trans rfl rfl
@[simp] theorem isMv_makeFunc (fn : Fn) (a b : Array Operand) : isMv (.makeFunc fn a b) = false := Eq.trans rfl rfl
@[simp] theorem isMv_makeSlice (t : Nat) (x y : Operand) : isMv (.makeSlice t x y) = false := Eq.trans rfl rfl
@[simp] theorem isMv_slice (t : Nat) (x : Operand) (a b c : Option Operand) : isMv (.slice t x a b c) = false := Eq.trans rfl rfl
@[simp] theorem isMv_fieldAddr (t : Nat) (x : Operand) (k : Nat) : isMv (.fieldAddr t x k) = false := Eq.trans rfl rfl
@[simp] theorem isMv_field (t : Nat) (x : Operand) (k : Nat) : isMv (.field t x k) = false := Eq.trans rfl rfl
@[simp] theorem isMv_indexAddr (t : Nat) (x y : Operand) : isMv (.indexAddr t x y) = false := Eq.trans rfl rfl
@[simp] theorem isMv_index (t : Nat) (x y : Operand) : isMv (.index t x y) = false := Eq.trans rfl rfl
@[simp] theorem isMv_extract (x : Operand) (k : Nat) : isMv (.extract x k) = false := Eq.trans rfl rfl
@[simp] theorem isMv_builtin {b : Builtin} {a : Array Operand} {t : Array Nat} : isMv (.call ⟨.builtin b, a, t⟩) = false := Eq.trans rfl rfl
@[simp] theorem isMv_binOp {o : BinOp} {t u : Nat} {x y : Operand} : isMv (.binOp o t x y u) = false := Eq.trans rfl rfl
@[simp] theorem isMv_call {c : Call} : isMv (.call c) = false := Eq.trans rfl rfl
@[simp] theorem isMv_buildSlice (t n : Nat) (p : Array (Nat × Operand)) : isMv (.buildSlice t n p) = false := Eq.trans rfl rfl
@[simp] theorem isBS_move (x : Operand) : isBS (.move x) = false := Eq.trans rfl rfl
@[simp] theorem isBS_assign (x : Operand) : isBS (.assign x) = false := Eq.trans rfl rfl
@[simp] theorem isBS_pick (c a b : Operand) : isBS (.pick c a b) = false := Eq.trans rfl rfl
@[simp] theorem isBS_alloc (t : Nat) : isBS (.alloc t) = false := Eq.trans rfl rfl
@[simp] theorem isBS_box (t : Nat) (x : Operand) : isBS (.box t x) = false := Eq.trans rfl rfl
@[simp] theorem isBS_build (t : Nat) (p : Array (Nat × Operand)) : isBS (.build t p) = false := Eq.trans rfl rfl
@[simp] theorem isBS_load (t : Nat) (x : Operand) : isBS (.load t x) = false := Eq.trans rfl rfl
@[simp] theorem isBS_store (t : Nat) (x y : Operand) : isBS (.store t x y) = false := Eq.trans rfl rfl
@[simp] theorem isBS_nilCheck (x : Operand) : isBS (.nilCheck x) = false := Eq.trans rfl rfl
@[simp] theorem isBS_unOp (o : UnOp) (t : Nat) (x : Operand) : isBS (.unOp o t x) = false := Eq.trans rfl rfl
@[simp] theorem isBS_convert (t u : Nat) (x : Operand) : isBS (.convert t u x) = false := Eq.trans rfl rfl
@[simp] theorem isBS_makeFunc (fn : Fn) (a b : Array Operand) : isBS (.makeFunc fn a b) = false := Eq.trans rfl rfl
@[simp] theorem isBS_makeSlice (t : Nat) (x y : Operand) : isBS (.makeSlice t x y) = false := Eq.trans rfl rfl
@[simp] theorem isBS_slice (t : Nat) (x : Operand) (a b c : Option Operand) : isBS (.slice t x a b c) = false := Eq.trans rfl rfl
@[simp] theorem isBS_fieldAddr (t : Nat) (x : Operand) (k : Nat) : isBS (.fieldAddr t x k) = false := Eq.trans rfl rfl
@[simp] theorem isBS_field (t : Nat) (x : Operand) (k : Nat) : isBS (.field t x k) = false := Eq.trans rfl rfl
@[simp] theorem isBS_indexAddr (t : Nat) (x y : Operand) : isBS (.indexAddr t x y) = false := Eq.trans rfl rfl
@[simp] theorem isBS_index (t : Nat) (x y : Operand) : isBS (.index t x y) = false := Eq.trans rfl rfl
@[simp] theorem isBS_extract (x : Operand) (k : Nat) : isBS (.extract x k) = false := Eq.trans rfl rfl
@[simp] theorem isBS_b_append {a : Array Operand} {t : Array Nat} : isBS (.call ⟨.builtin .append, a, t⟩) = false := Eq.trans rfl rfl
@[simp] theorem isBS_b_clear {a : Array Operand} {t : Array Nat} : isBS (.call ⟨.builtin .clear, a, t⟩) = false := Eq.trans rfl rfl
@[simp] theorem isBS_b_close {a : Array Operand} {t : Array Nat} : isBS (.call ⟨.builtin .close, a, t⟩) = false := Eq.trans rfl rfl
@[simp] theorem isBS_b_complex {a : Array Operand} {t : Array Nat} : isBS (.call ⟨.builtin .complex, a, t⟩) = false := Eq.trans rfl rfl
@[simp] theorem isBS_b_copy {a : Array Operand} {t : Array Nat} : isBS (.call ⟨.builtin .copy, a, t⟩) = false := Eq.trans rfl rfl
@[simp] theorem isBS_b_delete {a : Array Operand} {t : Array Nat} : isBS (.call ⟨.builtin .delete, a, t⟩) = false := Eq.trans rfl rfl
@[simp] theorem isBS_b_imag {a : Array Operand} {t : Array Nat} : isBS (.call ⟨.builtin .imag, a, t⟩) = false := Eq.trans rfl rfl
@[simp] theorem isBS_b_len {a : Array Operand} {t : Array Nat} : isBS (.call ⟨.builtin .len, a, t⟩) = false := Eq.trans rfl rfl
@[simp] theorem isBS_b_make {a : Array Operand} {t : Array Nat} : isBS (.call ⟨.builtin .make, a, t⟩) = false := Eq.trans rfl rfl
@[simp] theorem isBS_b_max {a : Array Operand} {t : Array Nat} : isBS (.call ⟨.builtin .max, a, t⟩) = false := Eq.trans rfl rfl
@[simp] theorem isBS_b_min {a : Array Operand} {t : Array Nat} : isBS (.call ⟨.builtin .min, a, t⟩) = false := Eq.trans rfl rfl
@[simp] theorem isBS_b_new {a : Array Operand} {t : Array Nat} : isBS (.call ⟨.builtin .new, a, t⟩) = false := Eq.trans rfl rfl
@[simp] theorem isBS_b_panic {a : Array Operand} {t : Array Nat} : isBS (.call ⟨.builtin .panic, a, t⟩) = false := Eq.trans rfl rfl
@[simp] theorem isBS_b_print {a : Array Operand} {t : Array Nat} : isBS (.call ⟨.builtin .print, a, t⟩) = false := Eq.trans rfl rfl
@[simp] theorem isBS_b_println {a : Array Operand} {t : Array Nat} : isBS (.call ⟨.builtin .println, a, t⟩) = false := Eq.trans rfl rfl
@[simp] theorem isBS_b_real {a : Array Operand} {t : Array Nat} : isBS (.call ⟨.builtin .real, a, t⟩) = false := Eq.trans rfl rfl
@[simp] theorem isBS_b_recover {a : Array Operand} {t : Array Nat} : isBS (.call ⟨.builtin .recover, a, t⟩) = false := Eq.trans rfl rfl
@[simp] theorem isBS_b_unsafeAdd {a : Array Operand} {t : Array Nat} : isBS (.call ⟨.builtin .unsafeAdd, a, t⟩) = false := Eq.trans rfl rfl
@[simp] theorem isBS_b_unsafeSlice {a : Array Operand} {t : Array Nat} : isBS (.call ⟨.builtin .unsafeSlice, a, t⟩) = false := Eq.trans rfl rfl
@[simp] theorem isBS_b_unsafeSliceData {a : Array Operand} {t : Array Nat} : isBS (.call ⟨.builtin .unsafeSliceData, a, t⟩) = false := Eq.trans rfl rfl
@[simp] theorem isBS_b_unsafeString {a : Array Operand} {t : Array Nat} : isBS (.call ⟨.builtin .unsafeString, a, t⟩) = false := Eq.trans rfl rfl
@[simp] theorem isBS_b_unsafeStringData {a : Array Operand} {t : Array Nat} : isBS (.call ⟨.builtin .unsafeStringData, a, t⟩) = false := Eq.trans rfl rfl
@[simp] theorem isBS_binOp {o : BinOp} {t u : Nat} {x y : Operand} : isBS (.binOp o t x y u) = false := Eq.trans rfl rfl
@[simp] theorem isBS_value {f : Operand} {a : Array Operand} {t : Array Nat} : isBS (.call ⟨.value f, a, t⟩) = false := Eq.trans rfl rfl
@[simp] theorem vcOps_cons {d : Option Nat} {op : Op} {ty : Nat} {g : Option (Nat × Bool)} {l : List AOper} {K : St → Prop} (h : isNilCmp op = none) (h2 : isCall op = none) (h3 : isBS op = false) : vcOps P T O (⟨d, op, ty, g⟩ :: l) K s = vcOp P T O ⟨d, op, ty, g⟩ s (vcOps P T O l K) := by
  simp only [vcOps, h, h2, capArg_none h3, preFrz_none (o := ⟨d, op, ty, g⟩) h3, frzs]
@[simp] theorem CapG_sl {m : List (Nat × Option Box)} {t : Nat} {g : Prop} {id ver off len : Nat} {K : Nat → Prop} {G : Prop} : CapG T m t g (.sl id ver off len) K G = PreK ((tknown T t ∧ isSlT (tkind T t) = true) ∧ g ∧ (match find m id with | some b => b.ver = ver | none => False)) (CapK len K) := Eq.trans rfl rfl
@[simp] theorem CapG_seq {m : List (Nat × Option Box)} {t : Nat} {g : Prop} {sz : Nat} {l : List AV} {f : Bool} {K : Nat → Prop} {G : Prop} : CapG T m t g (.seq sz l f) K G = G := Eq.trans rfl rfl
theorem capArg_bs {t n : Nat} {p : Array (Nat × Operand)} : capArg (.buildSlice t n p) = none := rfl
theorem CapK.intro {len : Nat} {K : Nat → Prop} (h : ∀ c, len ≤ c → K c) : CapK len K := h
@[simp] theorem isSlT_slice {k : Nat} : isSlT (.slice k) = true := Eq.trans rfl rfl
@[simp] theorem vcOps_cap {d : Option Nat} {x : Operand} {t ty : Nat} {l : List AOper} {K : St → Prop} : vcOps P T O (⟨d, .call ⟨.builtin .cap, #[x], #[t]⟩, ty, none⟩ :: l) K s = CapG T s.mem t (sg (ev s.env x)) (st (ev s.env x)) (fun c => vcOps P T O l K (s.app d (.raw (.int .i64 (c : Int))) [])) (vcOp P T O ⟨d, .call ⟨.builtin .cap, #[x], #[t]⟩, ty, none⟩ s (vcOps P T O l K)) := Eq.trans rfl rfl
/-- Boxes become immutable ahead of an operation. -/
def FrzO (ids : List Nat) (F : St → Prop) (s : St) (_t : Tag F := ()) : Prop := frzs ids F s
def FindO (x : Option Box) (F : Box → Prop) (_t : Tag F := ()) : Prop := match x with | some b => F b | none => False
@[simp] theorem FindO_some {b : Box} {F : Box → Prop} : FindO (some b) F = F b := Eq.trans rfl rfl
@[simp] theorem FrzO_nil {F : St → Prop} : FrzO [] F s = F s := Eq.trans rfl rfl
@[simp] theorem FrzO_cons {id : Nat} {l : List Nat} {F : St → Prop} : FrzO (id :: l) F s = FindO (find s.mem id) (fun b => PreK (b.var = true → AV.refsL b.els = []) (FrzO l F (frzSt s id b))) := by
  simp only [FrzO, frzs, FindO]
  all_goals (cases find s.mem id <;> rfl)
@[simp] theorem vcOps_bs {d : Option Nat} {t n : Nat} {p : Array (Nat × Operand)} {ty : Nat} {l : List AOper} {K : St → Prop} : vcOps P T O (⟨d, .buildSlice t n p, ty, none⟩ :: l) K s = FrzO (if O.contains (d.getD 0) then [] else ownIds s.mem (AV.refsL (p.toList.map fun q => st (ev s.env q.2)))) (fun s' => vcOp P T O ⟨d, .buildSlice t n p, ty, none⟩ s' (vcOps P T O l K)) s := by
  simp only [vcOps, isNilCmp_buildSlice, isCall_buildSlice, preFrz, FrzO, capArg_bs]
@[simp] theorem vcOps_bsg {d : Option Nat} {t n : Nat} {p : Array (Nat × Operand)} {ty : Nat} {g : Nat × Bool} {l : List AOper} {K : St → Prop} : vcOps P T O (⟨d, .buildSlice t n p, ty, some g⟩ :: l) K s = vcOp P T O ⟨d, .buildSlice t n p, ty, some g⟩ s (vcOps P T O l K) := by
  simp only [vcOps, isNilCmp_buildSlice, isCall_buildSlice, preFrz_guard (o := ⟨d, .buildSlice t n p, ty, some g⟩) rfl, frzs, capArg_bs]
@[simp] theorem vcOps_guardedB {d : Option Nat} {b : Builtin} {ts : Array Nat} {args : Array Operand} {ty : Nat} {g : Nat × Bool} {l : List AOper} {K : St → Prop} : vcOps P T O (⟨d, .call ⟨.builtin b, args, ts⟩, ty, some g⟩ :: l) K s = vcOp P T O ⟨d, .call ⟨.builtin b, args, ts⟩, ty, some g⟩ s (vcOps P T O l K) := by
  simp only [vcOps, isNilCmp_call, isCall_builtin, preFrz_guard (o := ⟨d, .call ⟨.builtin b, args, ts⟩, ty, some g⟩) rfl, frzs]
  cases capArg (.call ⟨.builtin b, args, ts⟩) <;> rfl
@[simp] theorem vcOps_nilEq {d : Option Nat} {t t' ty : Nat} {x : Operand} {l : List AOper} {K : St → Prop} :
    vcOps P T O (⟨d, .binOp .eql t x (.const (.slice none 0 0)) t', ty, none⟩ :: l) K s = PreK (nilOK T t = true ∧ nilArg s.mem (st (ev s.env x)) ∧ sg (ev s.env x)) (NilK (nilOf (st (ev s.env x))) fun b => vcOps P T O l K (s.app d (.raw (.bool (b == true))) [])) := Eq.trans rfl rfl
@[simp] theorem vcOps_nilNe {d : Option Nat} {t t' ty : Nat} {x : Operand} {l : List AOper} {K : St → Prop} :
    vcOps P T O (⟨d, .binOp .neq t x (.const (.slice none 0 0)) t', ty, none⟩ :: l) K s = PreK (nilOK T t = true ∧ nilArg s.mem (st (ev s.env x)) ∧ sg (ev s.env x)) (NilK (nilOf (st (ev s.env x))) fun b => vcOps P T O l K (s.app d (.raw (.bool (b == false))) [])) := Eq.trans rfl rfl
/-- A condition that is known. -/
def GuardK (x : Option Bool) (F : Bool → Prop) (_t : Tag F := ()) : Prop := match x with | some c => F c | none => False
@[simp] theorem GuardK_some {c : Bool} {F : Bool → Prop} : GuardK (some c) F = F c := Eq.trans rfl rfl
def TgtK (x : Option (FuncId × List AV)) (F : FuncId → List AV → Prop) (_t : Tag F := ()) : Prop := match x with | some (g, as) => F g as | none => False
@[simp] theorem TgtK_some {g : FuncId} {as : List AV} {F : FuncId → List AV → Prop} : TgtK (some (g, as)) F = F g as := Eq.trans rfl rfl
@[simp] theorem vcOps_call {d : Option Nat} {f : Operand} {args : Array Operand} {ts : Array Nat} {ty : Nat} {l : List AOper} {K : St → Prop} :
    vcOps P T O (⟨d, .call ⟨.value f, args, ts⟩, ty, none⟩ :: l) K s = TgtK (tgt (st (ev s.env f)) (nrmL T ts.toList (args.toList.map fun x => st (ev s.env x)))) (fun g as =>
      PreK (firms s.env (firm (.call ⟨.value f, args, ts⟩))) (CallX P s d g as fun s' r up => vcOps P T O l K (s'.app d r up))) := by
  simp only [vcOps, isNilCmp_call, isCall_call, TgtK]
  all_goals (cases tgt (st (ev s.env f)) (nrmL T ts.toList (args.toList.map fun x => st (ev s.env x))) <;> rfl)
@[simp] theorem vcOps_guarded {d : Option Nat} {f : Operand} {args : Array Operand} {ts : Array Nat} {ty g0 : Nat} {want : Bool} {l : List AOper} {K : St → Prop} :
    vcOps P T O (⟨d, .call ⟨.value f, args, ts⟩, ty, some (g0, want)⟩ :: l) K s = GuardK (guardOf (get s.env g0) want) (fun c => TgtK (tgt (st (ev s.env f)) (nrmL T ts.toList (args.toList.map fun x => st (ev s.env x)))) (fun g as =>
      PreK (c = true → firms s.env (firm (.call ⟨.value f, args, ts⟩))) (CallG P c g (snapL s.mem as) (snapOKL s.mem as) (AV.refsL as).isEmpty (fun r => vcOps P T O l K (s.app d (.maybe c r) [])) (c = true ∧ CallX P s d g as fun s' r up => vcOps P T O l K (s'.app d r up))))) := by
  simp only [vcOps, isNilCmp_call, isCall_call, TgtK, GuardK]
  all_goals (cases guardOf (get s.env g0) want with
    | none => rfl
    | some c => cases tgt (st (ev s.env f)) (nrmL T ts.toList (args.toList.map fun x => st (ev s.env x))) <;> rfl)
def FindK (x : Option Box) (F : Box → Prop) (_t : Tag F := ()) : Prop := match x with | some b => F b | none => False
@[simp] theorem FindK_some {b : Box} {F : Box → Prop} : FindK (some b) F = F b := Eq.trans rfl rfl
@[simp] theorem vcOp_plain {d : Option Nat} {op : Op} {ty : Nat} {K : St → Prop} : vcOp P T O ⟨d, op, ty, none⟩ s K = vcStep P T O ⟨d, op, ty, none⟩ s K := Eq.trans rfl rfl
@[simp] theorem vcOp_guard {d : Option Nat} {op : Op} {ty g : Nat} {want : Bool} {K : St → Prop} :
    vcOp P T O ⟨d, op, ty, some (g, want)⟩ s K = GuardK (guardOf (get s.env g) want) (fun c => vcGuard P T O ⟨d, op, ty, some (g, want)⟩ c s K) := by
  simp only [vcOp, GuardK]
  all_goals (cases guardOf (get s.env g) want <;> rfl)
@[simp] theorem vcStep_call {d : Option Nat} {f : Operand} {args : Array Operand} {ts : Array Nat} {ty : Nat} {gu : Option (Nat × Bool)} {K : St → Prop} :
    vcStep P T O ⟨d, .call ⟨.value f, args, ts⟩, ty, gu⟩ s K = TgtK (tgt (st (ev s.env f)) (nrmL T ts.toList (args.toList.map fun x => st (ev s.env x)))) (fun g as =>
      PreK (firms s.env (firm (.call ⟨.value f, args, ts⟩))) (CallS P g (snapL s.mem as) (snapOKL s.mem as) (AV.refsL as).isEmpty fun r => K (s.app d r []))) := by
  simp only [vcStep, isCall, TgtK]
  all_goals (cases tgt (st (ev s.env f)) (nrmL T ts.toList (args.toList.map fun x => st (ev s.env x))) <;> rfl)
@[simp] theorem vcStep_op {d : Option Nat} {op : Op} {ty : Nat} {gu : Option (Nat × Bool)} {K : St → Prop} (h : isCall op = none) :
    vcStep P T O ⟨d, op, ty, gu⟩ s K = PreK ((opE T O s.mem (d.getD 0) ty s.env op).pre ∧ firms s.env (firm op)) (K (s.app d (opE T O s.mem (d.getD 0) ty s.env op).val (opE T O s.mem (d.getD 0) ty s.env op).up)) := by
  simp only [vcStep, h]
@[simp] theorem vcGuard_call {d : Option Nat} {f : Operand} {args : Array Operand} {ts : Array Nat} {ty : Nat} {gu : Option (Nat × Bool)} {c : Bool} {K : St → Prop} :
    vcGuard P T O ⟨d, .call ⟨.value f, args, ts⟩, ty, gu⟩ c s K = TgtK (tgt (st (ev s.env f)) (nrmL T ts.toList (args.toList.map fun x => st (ev s.env x)))) (fun g as =>
      PreK (c = true → firms s.env (firm (.call ⟨.value f, args, ts⟩))) (CallG P c g (snapL s.mem as) (snapOKL s.mem as) (AV.refsL as).isEmpty (fun r => K (s.app d (.maybe c r) [])) False)) := by
  simp only [vcGuard, isCall, TgtK]
  all_goals (cases tgt (st (ev s.env f)) (nrmL T ts.toList (args.toList.map fun x => st (ev s.env x))) <;> rfl)
@[simp] theorem vcGuard_op {d : Option Nat} {op : Op} {ty : Nat} {gu : Option (Nat × Bool)} {c : Bool} {K : St → Prop} (h : isCall op = none) :
    vcGuard P T O ⟨d, op, ty, gu⟩ c s K = PreK (c = true → (opE T O s.mem (d.getD 0) ty s.env op).pre ∧ firms s.env (firm op))
      (K (s.app d (.maybe c (opE T O s.mem (d.getD 0) ty s.env op).val) (if c = false then [] else (opE T O s.mem (d.getD 0) ty s.env op).up))) := by
  simp only [vcGuard, h]
@[simp] theorem FinO_normal {rs : List ResultVar} {sz : Nat} {els : List AV} : FinO rs sz els .normal s = FinO rs sz els .ret s := Eq.trans rfl rfl
@[simp] theorem FinO_ret {t : Nat} {sz : Nat} {els : List AV} : FinO [.tmp t] sz els .ret s = OwnK s.mem sz els (get s.env t) := Eq.trans rfl rfl
@[simp] theorem FinT_normal {rs : List ResultVar} {sz : Nat} {els : List AV} {u : Value} : FinT rs sz els u .normal s = FinT rs sz els u .ret s := Eq.trans rfl rfl
@[simp] theorem FinT_ret {t t' : Nat} {sz : Nat} {els : List AV} {u : Value} : FinT [.tmp t, .tmp t'] sz els u .ret s = (OwnK s.mem sz els (get s.env t) ∧ get s.env t' = .raw u) := Eq.trans rfl rfl
@[simp] theorem FinL_normal {rs : List ResultVar} {sz : Nat} {r : LRet} {els' : List AV} : FinL T rs sz r els' .normal s = (LentK s.mem sz els' ∧ LRetK T s rs r) := Eq.trans rfl rfl
@[simp] theorem FinL_ret {rs : List ResultVar} {sz : Nat} {r : LRet} {els' : List AV} : FinL T rs sz r els' .ret s = (LentK s.mem sz els' ∧ LRetK T s rs r) := Eq.trans rfl rfl
@[simp] theorem FinB_normal {rs : List ResultVar} {m : List (Nat × Option Box)} {r : AV} {m' : List (Nat × Option Box)} : FinB T rs m r m' .normal s = (LentB s.mem m' ∧ (m.map (·.1) = m'.map (·.1) ∧ inKeysM (m.map (·.1)) m' = true ∧ inKeys (m.map (·.1)) r.refs = true) ∧ resL T s rs ∧ resA (resV T s rs) = r) := Eq.trans rfl rfl
@[simp] theorem FinB_ret {rs : List ResultVar} {m : List (Nat × Option Box)} {r : AV} {m' : List (Nat × Option Box)} : FinB T rs m r m' .ret s = (LentB s.mem m' ∧ (m.map (·.1) = m'.map (·.1) ∧ inKeysM (m.map (·.1)) m' = true ∧ inKeys (m.map (·.1)) r.refs = true) ∧ resL T s rs ∧ resA (resV T s rs) = r) := Eq.trans rfl rfl
@[simp] theorem Fin_normal {rs : List ResultVar} {r : AV} : Fin T rs r .normal s = PreK (resL T s rs ∧ snapOK s.mem (resA (resV T s rs))) (snap s.mem (resA (resV T s rs)) = r) := Eq.trans rfl rfl
@[simp] theorem Fin_ret {rs : List ResultVar} {r : AV} : Fin T rs r .ret s = PreK (resL T s rs ∧ snapOK s.mem (resA (resV T s rs))) (snap s.mem (resA (resV T s rs)) = r) := Eq.trans rfl rfl
@[simp] theorem vcDraw_nil {K : List (List Nat × List Nat) → St → Prop} {acc : List (List Nat × List Nat)} : vcDraw P T O [] K acc s = K acc s := Eq.trans rfl rfl
theorem vcDraw_cons0 {o : AOper} {l : List AOper} {K : List (List Nat × List Nat) → St → Prop} {acc : List (List Nat × List Nat)} :
    vcDraw P T O (o :: l) K acc s = match isCall o.op, o.guard with
    | some (f, ts, xs), none => match tgt (st (ev s.env f)) (nrmL T ts (xs.map fun x => st (ev s.env x))) with
      | some (g, as) => PreK (firms s.env (firm o.op)) (CallK P s.mem o.dst as (idsOf o s.env) g (snapL s.mem as) (snapOKL s.mem as) (AV.refsL as).isEmpty fun r up F => vcDraw P T O l K (acc ++ [(F, up.map (·.1))]) (s.app o.dst r up))
      | none => False
    | _, _ => vcOp P T O o s (vcDraw P T O l K (acc ++ [(idsOf o s.env, upKeys T O o s)])) := Eq.trans rfl rfl
@[simp] theorem vcDraw_op {d : Option Nat} {op : Op} {ty : Nat} {gu : Option (Nat × Bool)} {l : List AOper} {K : List (List Nat × List Nat) → St → Prop} {acc : List (List Nat × List Nat)} (h : isCall op = none) :
    vcDraw P T O (⟨d, op, ty, gu⟩ :: l) K acc s = vcOp P T O ⟨d, op, ty, gu⟩ s (vcDraw P T O l K (acc ++ [(idsOf ⟨d, op, ty, gu⟩ s.env, upKeys T O ⟨d, op, ty, gu⟩ s)])) := by
  rw [vcDraw_cons0]
  simp only [h]
@[simp] theorem vcDraw_guard {d : Option Nat} {op : Op} {ty : Nat} {gu : Nat × Bool} {l : List AOper} {K : List (List Nat × List Nat) → St → Prop} {acc : List (List Nat × List Nat)} :
    vcDraw P T O (⟨d, op, ty, some gu⟩ :: l) K acc s = vcOp P T O ⟨d, op, ty, some gu⟩ s (vcDraw P T O l K (acc ++ [(idsOf ⟨d, op, ty, some gu⟩ s.env, upKeys T O ⟨d, op, ty, some gu⟩ s)])) := by
  rw [vcDraw_cons0]
  cases isCall op <;> rfl
@[simp] theorem vcDraw_call {d : Option Nat} {f : Operand} {args : Array Operand} {ts : Array Nat} {ty : Nat} {l : List AOper} {K : List (List Nat × List Nat) → St → Prop} {acc : List (List Nat × List Nat)} :
    vcDraw P T O (⟨d, .call ⟨.value f, args, ts⟩, ty, none⟩ :: l) K acc s = TgtK (tgt (st (ev s.env f)) (nrmL T ts.toList (args.toList.map fun x => st (ev s.env x)))) (fun g as =>
      PreK (firms s.env (firm (.call ⟨.value f, args, ts⟩))) (CallK P s.mem d as (idsOf ⟨d, .call ⟨.value f, args, ts⟩, ty, none⟩ s.env) g (snapL s.mem as) (snapOKL s.mem as) (AV.refsL as).isEmpty fun r up F => vcDraw P T O l K (acc ++ [(F, up.map (·.1))]) (s.app d r up))) := by
  rw [vcDraw_cons0]
  simp only [isCall, TgtK]
  all_goals (cases tgt (st (ev s.env f)) (nrmL T ts.toList (args.toList.map fun x => st (ev s.env x))) <;> rfl)
@[simp] theorem frzs_nil {K : St → Prop} : frzs [] K s = K s := Eq.trans rfl rfl
@[simp] theorem frzs_cons {id : Nat} {l : List Nat} {K : St → Prop} : frzs (id :: l) K s = FindK (find s.mem id) (fun b => PreK (b.var = true → AV.refsL b.els = []) (frzs l K (frzSt s id b))) := by
  simp only [frzs, FindK]
  all_goals (cases find s.mem id <;> rfl)

theorem rens_imp {K K' : St → Prop} (hk : ∀ s, K s → K' s) : ∀ {rs : List (Nat × Nat)} {s : St}, rens rs K s → rens rs K' s
  | [], s, h => hk s h
  | (i, j) :: l, s, h => by
    simp only [rens] at h ⊢
    by_cases e : i = j
    · rw [if_pos e] at h ⊢
      exact rens_imp hk h
    · rw [if_neg e] at h ⊢
      cases hf : find s.mem i with
      | none => rw [hf] at h; exact h.elim
      | some b => rw [hf] at h; exact ⟨h.1, h.2.1, rens_imp hk h.2.2⟩
/-- A loop, by its states at the head; at the end of a round own boxes may become immutable, and then boxes may take other names. -/
theorem LoopK.byR {F : (AExit → St → Prop) → St → Prop} {ι : Type} (I : ι → St) (m : ι → Nat) (Pre : ι → Prop) (i0 : ι) (hp : Pre i0) (h0 : le s (I i0))
    (h : ∀ (i : ι) (Q' : AExit → St → Prop), Pre i → (∀ j (rs : List (Nat × Nat)) s', Pre j → m j < m i → rens rs (fun s'' => le s'' (I j)) s' → Q' .normal s') → (∀ n s', Q (.exit n) s' → Q' (.exit n) s') → (∀ s', Q .ret s' → Q' .ret s') → (∀ id b s', find s'.mem id = some b → (b.var = true → AV.refsL b.els = []) → Q' .normal (frzSt s' id b) → Q' .normal s') → F Q' (I i)) : LoopK F Q s :=
  ⟨[], { i // Pre i }, fun i => I i.1, fun i => m i.1, ⟨⟨i0, hp⟩, h0⟩, fun i => h i.1 _ i.2 (fun j rs s' hj hm hl => ⟨[], rs, rens_imp (fun s'' h => ⟨⟨j, hj⟩, h, hm⟩) hl⟩) (fun _ _ h => h) (fun _ h => h)
    fun id b s' hf hv hq => by
      obtain ⟨ids, hq⟩ := hq
      exact ⟨id :: ids, by simp only [frzs, hf]; exact ⟨hv, hq⟩⟩⟩
/-- A loop, by its states at the head; at the end of a round own boxes may become immutable. -/
theorem LoopK.byF {F : (AExit → St → Prop) → St → Prop} {ι : Type} (I : ι → St) (m : ι → Nat) (Pre : ι → Prop) (i0 : ι) (hp : Pre i0) (h0 : le s (I i0))
    (h : ∀ (i : ι) (Q' : AExit → St → Prop), Pre i → (∀ j s', Pre j → m j < m i → le s' (I j) → Q' .normal s') → (∀ n s', Q (.exit n) s' → Q' (.exit n) s') → (∀ s', Q .ret s' → Q' .ret s') → (∀ id b s', find s'.mem id = some b → (b.var = true → AV.refsL b.els = []) → Q' .normal (frzSt s' id b) → Q' .normal s') → F Q' (I i)) : LoopK F Q s :=
  LoopK.byR I m Pre i0 hp h0 fun i Q' h1 h2 h3 h4 h5 => h i Q' h1 (fun j s' hj hm hl => h2 j [] s' hj hm hl) h3 h4 h5
theorem LoopK.by {F : (AExit → St → Prop) → St → Prop} {ι : Type} (I : ι → St) (m : ι → Nat) (Pre : ι → Prop) (i0 : ι) (hp : Pre i0) (h0 : le s (I i0))
    (h : ∀ (i : ι) (Q' : AExit → St → Prop), Pre i → (∀ j s', Pre j → m j < m i → le s' (I j) → Q' .normal s') → (∀ n s', Q (.exit n) s' → Q' (.exit n) s') → (∀ s', Q .ret s' → Q' .ret s') → F Q' (I i)) : LoopK F Q s :=
  LoopK.byF I m Pre i0 hp h0 fun i Q' h1 h2 h3 h4 _ => h i Q' h1 h2 h3 h4
/-- A box becomes immutable ahead of a loop. -/
theorem LoopK.frz {F : (AExit → St → Prop) → St → Prop} (id : Nat) {b : Box} (hb : find s.mem id = some b) (hv : b.var = true → AV.refsL b.els = []) (h : LoopK F Q (frzSt s id b)) : LoopK F Q s := by
  obtain ⟨ids, h⟩ := h
  exact ⟨id :: ids, by simp only [frzs, hb]; exact ⟨hv, h⟩⟩

@[simp] theorem nth_zero (a : AV) (l : List AV) : nth (a :: l) 0 = a := Eq.trans rfl rfl
@[simp] theorem nth_succ (a : AV) (l : List AV) (k : Nat) : nth (a :: l) (k + 1) = nth l k := Eq.trans rfl rfl
@[simp] theorem take_map_len {α β : Type} (f : α → β) (l : List α) : (l.map f).take l.length = l.map f := by
  rw [List.take_of_length_le]; simp
/-- An element of a list (a name that simp leaves alone). -/
def el {α : Type} [Inhabited α] (l : List α) (k : Nat) : α := l.getD k default
theorem nth_map {α : Type} [Inhabited α] (f : α → AV) (l : List α) (k : Nat) (hk : k < l.length) : nth (l.map f) k = f (el l k) := by
  simp [nth, el, List.getD_eq_getElem?_getD, hk]
theorem drop_cons {α : Type} [Inhabited α] (l : List α) (k : Nat) (hk : k < l.length) : l.drop k = el l k :: l.drop (k + 1) := by
  simp [el, List.getD_eq_getElem?_getD, hk]
theorem take_succ {α : Type} [Inhabited α] (l : List α) (k : Nat) (hk : k < l.length) : l.take (k + 1) = l.take k ++ [el l k] := by
  rw [List.take_add_one]; simp [el, List.getD_eq_getElem?_getD, hk]
theorem el_eq {α : Type} [Inhabited α] (l : List α) (k : Nat) (hk : k < l.length) : el l k = l[k] := by
  simp [el, List.getD_eq_getElem?_getD, hk]
@[simp] theorem upKeys_op {d : Option Nat} {op : Op} {ty : Nat} (h : isCall op = none) : upKeys T O ⟨d, op, ty, none⟩ s = (opE T O s.mem (d.getD 0) ty s.env op).up.map (·.1) := by
  simp only [upKeys, h]
@[simp] theorem upKeys_opg {d : Option Nat} {op : Op} {ty g : Nat} {w : Bool} (h : isCall op = none) : upKeys T O ⟨d, op, ty, some (g, w)⟩ s = if guardOf (get s.env g) w = some false then [] else (opE T O s.mem (d.getD 0) ty s.env op).up.map (·.1) := by
  simp only [upKeys, h]
@[simp] theorem upKeys_call {d : Option Nat} {f : Operand} {args : Array Operand} {ts : Array Nat} {ty : Nat} {gu : Option (Nat × Bool)} : upKeys T O ⟨d, .call ⟨.value f, args, ts⟩, ty, gu⟩ s = [] := by
  simp only [upKeys, isCall]
end
attribute [simp] deep deepL deepOK deepOKL deepE deepEOK deepEs dropSt dropF rens renSt renF renB slTy leE leEls leBox ownIds renA renL upN dnN dnO namesOK lendM backM LentB inKeys inKeysM akey entK makeMapE mupdE lookE mlenE ments convX convB bytesOf clearE copyE putEls frzSt frzA frzL frzB OwnK LentK LRetK LRet.av lid capE idsOf opRefs apartAll disj le leV leEnv leMem alive aliveEnv aliveMem opE ev cv get envOf st sg moveE puts St.app firm firms cmpE resL resV resA snap snapL snapOK snapOKL Op.operands Call.operands rng_eq elems elemsV appE placeOf ftype partsOK nrms kindOK buildE setEls elsOK elsOKb sliceLitE nver intA sliceE fillA fieldE storeE setSub nilE partE elemE boxE allocE makeE convE fnE AV.solid indexE loadE sub cellsOf AV.width TK.agg binE inR boolE unE lenB lenE lenOK minE tupE fnE pickE guardOf builtinE tkind tknown tsize tzero telem esz nrm nrmL tgt find AV.refs AV.refsL flat flatL
end Go.Abs
end
