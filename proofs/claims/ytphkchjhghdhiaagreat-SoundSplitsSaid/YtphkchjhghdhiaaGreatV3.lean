/- Part 3 of the proof: the value layer and the contracts of the functions that the statement reaches; proved without conditions beyond those each theorem states. -/
import Derived.Orders
import Derived.Test.YtphkchjhghdhiaaGreatV2
set_option linter.unusedSimpArgs false
set_option linter.unusedVariables false

section
/- The value layer, part 26 (behind 15): calls whose result is owned by the caller; calls to which a box is lent. -/
namespace Go.Abs

/-- A slice in a block of its own. -/
def Owned (w w' : World) (X : Nat → Prop) (sz : Nat) (els : List AV) (v : Value) : Prop :=
  (els = [] ∧ ∃ p, v = .slice p 0 0) ∨ ∃ g base cap c el, v = .slice (some ⟨g, base, none⟩) els.length cap ∧ sz ≠ 0 ∧ w.heap.size ≤ g ∧ w'.heap[g]? = some (.cells c el (0, 0)) ∧ els.length ≤ cap ∧ base + cap * sz = c.size ∧
    els.length ≤ big ∧ (∀ j, j < c.size → (c.getD j undef).oneCell' = true) ∧
    ∀ i, i < els.length → (els.getD i .junk).width = sz ∧ Rep w' (fun b => X b ∨ b = g) Mu.none (els.getD i .junk) (elemVal (els.getD i .junk) sz c (base + i * sz))

/-- The contract of a function whose result is a slice in a block of its own. -/
def CallO (P : Program) (f : FuncId) (args : List AV) (sz : Nat) (els : List AV) : Prop :=
  Enter P f ∧ ∀ (w : World) (X : Nat → Prop) (vs : Array Value), (∀ b, X b → b < w.heap.size) → vs.size = args.length →
    (∀ i, i < args.length → Rep w X Mu.none (args.getD i .junk) (vs.getD i undef)) →
    Calls P f vs w fun e w' => ∃ v, e = .returned v ∧ Grows w w' ∧ Owned w w' X sz els v

section
variable {P : Program} {T : TT} (hT : TOK P T) {B : Base} {w : World} {a : Act} {s : St}

/-- An owned slice becomes a box. -/
theorem own_box {μ : Mu} {w' : World} (h : RelM B w a s μ) (hg : Grows w w') {X : Nat → Prop} {sz : Nat} {els : List AV} {v : Value} (ho : Owned w w' X sz els v)
    (hel : (∀ b, Yof B.X μ b → X b) ∨ ∀ i, i < els.length → flat (els.getD i .junk) = true) (d : Nat) :
    ∃ μ', RelM B w' a ⟨s.env, (d, some ⟨sz, els, nver s.mem d, false⟩) :: s.mem⟩ μ' ∧ Rep w' (Yof B.X μ') μ' (.sl d (nver s.mem d) 0 els.length) v := by
  rcases ho with ⟨rfl, p, rfl⟩ | ⟨g, base, cap, c, el, rfl, hz, hge, hw, hcap, hfit, hbig, h1, hr⟩
  · exact ⟨_, nil_box (h.grows hg) d sz false, .slNil (loc := ⟨nver s.mem d, sz, 0, none⟩) (by simp [Mu.upd]) rfl (fun _ _ e => by cases e)⟩
  · have hrel := RelM.rebox (w' := w') h d ⟨sz, els, nver s.mem d, false⟩ ⟨nver s.mem d, sz, base, some (g, c.size)⟩ rfl rfl (later_upd h.inv d _ (Nat.le_refl _))
      (.inr (zero_upd h.inv d ⟨nver s.mem d, sz, base, some (g, c.size)⟩ (Nat.le_refl _))) ⟨hg.1, hg.2.1, hg.2.2.1⟩ hg.2.2.2.1 (fun q hq _ => hg.2.2.2.2 q hq)
      (fun g' n e => by simp only [Option.some.injEq, Prod.mk.injEq] at e; exact .inr (by omega)) ?_
    · have hsl := Rep.sl (w := w') (Y := Yof B.X (μ.upd d ⟨nver s.mem d, sz, base, some (g, c.size)⟩)) (μ := μ.upd d ⟨nver s.mem d, sz, base, some (g, c.size)⟩) (id := d) (ver := nver s.mem d) (off := 0) (len := els.length) (cap := cap)
        (loc := ⟨nver s.mem d, sz, base, some (g, c.size)⟩) (by simp [Mu.upd]) rfl rfl hcap (by simpa using hfit) hz
      exact ⟨_, hrel, by simpa using hsl⟩
    · refine ⟨hbig, fun _ => ⟨c, el, hw, rfl, Nat.le_trans (Nat.add_le_add_left (Nat.mul_le_mul_right sz hcap) base) (Nat.le_of_eq hfit), h1, fun i hi => ⟨(hr i hi).1, ?_⟩⟩, fun h0 => absurd h0 hz⟩
      have hri := (hr i hi).2
      simp only [Bool.false_eq_true, if_false]
      rcases hel with hx | hfl
      · refine hri.mono (fun b hb _ => ⟨fun hy => hb ?_, rfl⟩) (Mu.later.refl _)
        rcases hy with hy | hy
        · exact .inl (hx b (.inl hy))
        · rcases blks_upd hy with ⟨n, e⟩ | ⟨i', l', n, _, hm, hb'⟩
          · simp only [Option.some.injEq, Prod.mk.injEq] at e
            exact .inr e.1.symm
          · exact .inl (hx b (.inr ⟨i', l', n, hm, hb'⟩))
      · exact hri.flat _ (hfl i hi)

/-- A call whose result the caller owns. -/
theorem own_wp {o : Oper} (hrel : Rel B w a s) {f : Operand} {args : Array Operand} {ts : Array TypeId} (ho : o.op = .call ⟨.value f, args, ts⟩) (hf : firms s.env (firm o.op)) {g : FuncId} {as : List AV}
    (htgt : tgt (st (ev s.env f)) (nrmL T ts.toList (args.toList.map fun x => st (ev s.env x))) = some (g, as)) {sz : Nat} {els : List AV} (hc : CallO P g (snapL s.mem as) sz els) (hsn : snapOKL s.mem as)
    (hfl : AV.refsL as = [] ∨ ∀ i, i < els.length → flat (els.getD i .junk) = true) {d : Nat} (hd : d < B.N) (hdst : o.dst = some d) {next : Act → World → Prop} {Q : Exit → Act → World → Prop}
    (hk : ∀ a' w', Rel B w' a' (s.app (some d) (.sl d (nver s.mem d) 0 els.length) [(d, some ⟨sz, els, nver s.mem d, false⟩)]) → next a' w') : o.wp P a w next Q := by
  obtain ⟨μ, h⟩ := hrel
  refine call_wp h ho hf htgt hc.1 fun vs hsz hall => ?_
  rcases hfl with hrf | hfl
  · have := hc.2 w (Yof B.X μ) vs (fun b hb => by
      rcases hb with hx | hb
      · exact Nat.lt_of_lt_of_le (h.base b hx).1 h.ext.size
      · exact blks.lt h.inv hb) (by rw [snapL_length]; exact hsz) (fun i hi => by
        rw [snapL_length] at hi
        rw [snapL_get hi]
        exact rep_snap_pure (hall i hi) (refsL_get hrf hi))
    refine Calls.mono this ?_
    rintro e w'' ⟨v, rfl, hg, hown⟩
    obtain ⟨μ', hr, hx⟩ := own_box h hg hown (.inl fun b hb => hb) d
    refine ⟨v, rfl, hk _ _ ⟨μ', ?_⟩⟩
    rw [hdst]
    exact hr.set hd hx
  · have := hc.2 w B.X vs (fun b hx => Nat.lt_of_lt_of_le (h.base b hx).1 h.ext.size) (by rw [snapL_length]; exact hsz) (fun i hi => by
        rw [snapL_length] at hi
        rw [snapL_get hi]
        exact rep_snap (hall i hi) (fun b hy hx => hy (.inl hx)) h.inv (snapOKL_get hsn hi))
    refine Calls.mono this ?_
    rintro e w'' ⟨v, rfl, hg, hown⟩
    obtain ⟨μ', hr, hx⟩ := own_box h hg hown (.inr hfl) d
    refine ⟨v, rfl, hk _ _ ⟨μ', ?_⟩⟩
    rw [hdst]
    exact hr.set hd hx


/-- A call whose result the caller owns, its arguments just as they are. -/
theorem own_wp' {o : Oper} (hrel : Rel B w a s) {f : Operand} {args : Array Operand} {ts : Array TypeId} (ho : o.op = .call ⟨.value f, args, ts⟩) (hf : firms s.env (firm o.op)) {g : FuncId} {as : List AV}
    (htgt : tgt (st (ev s.env f)) (nrmL T ts.toList (args.toList.map fun x => st (ev s.env x))) = some (g, as)) {sz : Nat} {els : List AV} (hc : CallO P g as sz els) (hrf : AV.refsL as = [])
    {d : Nat} (hd : d < B.N) (hdst : o.dst = some d) {next : Act → World → Prop} {Q : Exit → Act → World → Prop}
    (hk : ∀ a' w', Rel B w' a' (s.app (some d) (.sl d (nver s.mem d) 0 els.length) [(d, some ⟨sz, els, nver s.mem d, false⟩)]) → next a' w') : o.wp P a w next Q := by
  obtain ⟨μ, h⟩ := hrel
  refine call_wp h ho hf htgt hc.1 fun vs hsz hall => ?_
  have := hc.2 w (Yof B.X μ) vs (fun b hb => by
    rcases hb with hx | hb
    · exact Nat.lt_of_lt_of_le (h.base b hx).1 h.ext.size
    · exact blks.lt h.inv hb) hsz (fun i hi => (hall i hi).pure (refsL_get hrf hi) _)
  refine Calls.mono this ?_
  rintro e w'' ⟨v, rfl, hg, hown⟩
  obtain ⟨μ', hr, hx⟩ := own_box h hg hown (.inl fun b hb => hb) d
  refine ⟨v, rfl, hk _ _ ⟨μ', ?_⟩⟩
  rw [hdst]
  exact hr.set hd hx

/-- The contract of a function of two results, the first of which the caller owns. -/
def CallT (P : Program) (f : FuncId) (args : List AV) (sz : Nat) (els : List AV) (u : Value) : Prop :=
  Enter P f ∧ u.oneCell' = true ∧ ∀ (w : World) (X : Nat → Prop) (vs : Array Value), (∀ b, X b → b < w.heap.size) → vs.size = args.length →
    (∀ i, i < args.length → Rep w X Mu.none (args.getD i .junk) (vs.getD i undef)) →
    Calls P f vs w fun e w' => ∃ v, e = .returned (.tuple #[v, u]) ∧ Grows w w' ∧ Owned w w' X sz els v
/-- A call of which the caller owns the first of two results. -/
theorem own_wpT {o : Oper} (hrel : Rel B w a s) {f : Operand} {args : Array Operand} {ts : Array TypeId} (ho : o.op = .call ⟨.value f, args, ts⟩) (hf : firms s.env (firm o.op)) {g : FuncId} {as : List AV}
    (htgt : tgt (st (ev s.env f)) (nrmL T ts.toList (args.toList.map fun x => st (ev s.env x))) = some (g, as)) {sz : Nat} {els : List AV} {u : Value} (hc : CallT P g as sz els u) (hrf : AV.refsL as = [])
    {d : Nat} (hd : d < B.N) (hdst : o.dst = some d) {next : Act → World → Prop} {Q : Exit → Act → World → Prop}
    (hk : ∀ a' w', Rel B w' a' (s.app (some d) (.tup [.sl d (nver s.mem d) 0 els.length, .raw u]) [(d, some ⟨sz, els, nver s.mem d, false⟩)]) → next a' w') : o.wp P a w next Q := by
  obtain ⟨μ, h⟩ := hrel
  obtain ⟨hc1, hu, hc2⟩ := hc
  refine call_wp h ho hf htgt hc1 fun vs hsz hall => ?_
  have := hc2 w (Yof B.X μ) vs (fun b hb => by
    rcases hb with hx | hb
    · exact Nat.lt_of_lt_of_le (h.base b hx).1 h.ext.size
    · exact blks.lt h.inv hb) hsz (fun i hi => (hall i hi).pure (refsL_get hrf hi) _)
  refine Calls.mono this ?_
  rintro e w'' ⟨v, rfl, hg, hown⟩
  obtain ⟨μ', hr, hx⟩ := own_box h hg hown (.inl fun b hb => hb) d
  refine ⟨_, rfl, hk _ _ ⟨μ', ?_⟩⟩
  rw [hdst]
  refine hr.set hd (.tup rfl fun i hi => ?_)
  match i, hi with
  | 0, _ => exact hx
  | 1, _ => exact .raw hu

/-! ### a box is lent -/
/-- The number of a lent box in the callee. -/
def lid : Nat := 1000000
def mu1 (l : Loc) : Mu := fun i => if i = lid then some l else Option.none
/-- What a call to which a box is lent returns: a value without boxes, or the first elements of the box. -/
inductive LRet where
  | val (a : AV)
  | part (len : Nat)

def LRet.rep (w : World) (Y : Nat → Prop) (l : Loc) (v : Value) : LRet → Prop
  | .val a => Rep w Y Mu.none a v
  | .part len => Rep w Y (mu1 l) (.sl lid 0 0 len) v
def LRet.av (id ver : Nat) : LRet → AV
  | .val a => a
  | .part len => .sl id ver 0 len

/-- The contract of a function to which a box is lent. -/
def CallL (P : Program) (f : FuncId) (pre : List AV) (sz : Nat) (els : List AV) (suf : List AV) (r : LRet) (els' : List AV) : Prop :=
  Enter P f ∧ ∀ (w : World) (X : Nat → Prop) (l : Loc) (vs : Array Value), l.ver = 0 → l.sz = sz → (∀ b, X b → b < w.heap.size) → (∀ g n, l.blk = some (g, n) → ¬ X g) →
    Holds w (Yof X (mu1 l)) (mu1 l) l ⟨sz, els, 0, false⟩ → vs.size = (pre ++ .sl lid 0 0 els.length :: suf).length →
    (∀ i, i < (pre ++ .sl lid 0 0 els.length :: suf).length → Rep w (Yof X (mu1 l)) (mu1 l) ((pre ++ .sl lid 0 0 els.length :: suf).getD i .junk) (vs.getD i undef)) →
    Calls P f vs w fun e w' => ∃ v, e = .returned v ∧ Ext w w' (blks (mu1 l)) ∧ Holds w' (Yof X (mu1 l)) (mu1 l) l ⟨sz, els', 0, false⟩ ∧ r.rep w' (Yof X (mu1 l)) l v

theorem blks_mu1 {l : Loc} {g : Nat} : blks (mu1 l) g ↔ ∃ n, l.blk = some (g, n) := by
  constructor
  · rintro ⟨i, l', n, hm, hb⟩
    unfold mu1 at hm
    split at hm
    · cases hm; exact ⟨n, hb⟩
    · cases hm
  · rintro ⟨n, hb⟩
    exact ⟨lid, l, n, by simp [mu1], hb⟩

theorem getD_mid {α : Type} {d : α} (p : List α) (x : α) (q : List α) (i : Nat) : (p ++ x :: q).getD i d = if i < p.length then p.getD i d else if i = p.length then x else q.getD (i - p.length - 1) d := by
  simp only [List.getD_eq_getElem?_getD]
  by_cases h : i < p.length
  · rw [if_pos h, List.getElem?_append_left h]
  · rw [if_neg h, List.getElem?_append_right (by omega)]
    by_cases e : i = p.length
    · subst e; simp
    · rw [if_neg e, show i - p.length = (i - p.length - 1) + 1 by omega]
      simp

/-- A call to which a box is lent. -/
theorem lent_wp {o : Oper} (hrel : Rel B w a s) {f : Operand} {args : Array Operand} {ts : Array TypeId} (ho : o.op = .call ⟨.value f, args, ts⟩) (hf : firms s.env (firm o.op)) {g : FuncId} {pre suf : List AV} {id ver n : Nat}
    (htgt : tgt (st (ev s.env f)) (nrmL T ts.toList (args.toList.map fun x => st (ev s.env x))) = some (g, pre ++ .sl id ver 0 n :: suf)) {b : Box} (hb : find s.mem id = some b) (hbv : b.ver = ver) (hvar : b.var = false) (hn : n = b.els.length)
    (hpre : AV.refsL pre = []) (hsuf : AV.refsL suf = []) {r : LRet} {els' : List AV} (hc : CallL P g (snapL s.mem pre) b.sz b.els (snapL s.mem suf) r els') (hd : ∀ k, o.dst = some k → k < B.N) {next : Act → World → Prop} {Q : Exit → Act → World → Prop}
    (hk : ∀ a' w', Rel B w' a' (s.app o.dst (r.av id ver) [(id, some ⟨b.sz, els', ver, false⟩)]) → next a' w') : o.wp P a w next Q := by
  obtain ⟨μ, h⟩ := hrel
  refine call_wp h ho hf htgt hc.1 fun vs hsz hall => ?_
  obtain ⟨lc, hm, hlv, hls, hh⟩ := h.inv.box id b hb
  let l : Loc := ⟨0, lc.sz, lc.base, lc.blk⟩
  let X : Nat → Prop := fun q => Yof B.X μ q ∧ ∀ n, lc.blk ≠ some (q, n)
  have hY : ∀ q, Yof X (mu1 l) q ↔ Yof B.X μ q := by
    intro q
    constructor
    · rintro (hx | hx)
      · exact hx.1
      · obtain ⟨n, hn⟩ := blks_mu1.1 hx
        exact .inr ⟨id, lc, n, hm, hn⟩
    · intro hy
      by_cases e : ∃ n, lc.blk = some (q, n)
      · exact .inr (blks_mu1.2 e)
      · exact .inl ⟨hy, fun n hn => e ⟨n, hn⟩⟩
  have hkeep : ∀ q, ¬ Yof B.X μ q → q < w.heap.size → ¬ Yof X (mu1 l) q ∧ w.heap[q]? = w.heap[q]? := fun q hq _ => ⟨fun hy => hq ((hY q).1 hy), rfl⟩
  have hpure : ∀ x v, x.refs = [] → Rep w (Yof B.X μ) μ x v → Rep w (Yof X (mu1 l)) (mu1 l) (snap s.mem x) v := fun x v hx hr => (rep_snap_pure hr hx).mono hkeep (Mu.none_later _)
  have hholds : Holds w (Yof X (mu1 l)) (mu1 l) l ⟨b.sz, b.els, 0, false⟩ := by
    unfold Holds at hh ⊢
    refine ⟨hh.1, ?_⟩
    have h2 := hh.2
    simp only [hvar, Bool.false_eq_true, if_false] at h2 ⊢
    rw [show l.blk = lc.blk from rfl]
    cases hbk : lc.blk with
    | none => rw [hbk] at h2; exact h2
    | some gn =>
      obtain ⟨g', n'⟩ := gn
      rw [hbk] at h2
      refine ⟨fun hz => ?_, fun hz => ?_⟩
      · obtain ⟨c, el, hw, hcs, hfit, h1, hr⟩ := h2.1 hz
        exact ⟨c, el, hw, hcs, hfit, h1, fun i hi => ⟨(hr i hi).1, (hr i hi).2.mono hkeep (Mu.later.refl _)⟩⟩
      · obtain ⟨hv0, es, clock, hw, hs, hr⟩ := h2.2 hz
        exact ⟨by first | rfl | trivial | exact hv0, es, clock, hw, hs, fun i hi => (hr i hi).mono hkeep (Mu.later.refl _)⟩
  have := hc.2 w X l vs rfl hls (fun q hq => by
    rcases hq.1 with hx | hx
    · exact Nat.lt_of_lt_of_le (h.base q hx).1 h.ext.size
    · exact blks.lt h.inv hx) (fun g n hg hx => hx.2 n hg) hholds (by rw [hsz]; simp [snapL_length]) (fun i hi => by
    rw [getD_mid]
    simp only [List.length_append, List.length_cons, snapL_length] at hi
    have hi2 := hall i (by simpa using hi)
    rw [getD_mid] at hi2
    rw [snapL_length]
    split at hi2
    · rename_i hlt
      rw [if_pos hlt, snapL_get hlt]
      exact hpure _ _ (refsL_get hpre hlt) hi2
    · rename_i hge
      rw [if_neg hge]
      split at hi2
      · rename_i e
        rw [if_pos e]
        rw [← hn]
        generalize vs.getD i undef = u at hi2 ⊢
        cases hi2 with
        | slNil hm' hv' hnf => rw [hm] at hm'; cases hm'; exact .slNil (loc := l) (by simp [mu1]) rfl hnf
        | sl hm' hv' hbk hcap hfit hz =>
          rw [hm] at hm'; cases hm'
          exact .sl (loc := l) (by simp [mu1]) rfl hbk hcap hfit hz
        | slOld hm' hv' =>
          rw [hm] at hm'; cases hm'
          omega
      · rename_i e
        rw [if_neg e, snapL_get (by omega)]
        exact hpure _ _ (refsL_get hsuf (by omega)) hi2)
  refine Calls.mono this ?_
  rintro e w'' ⟨v, rfl, hext, hh', hret⟩
  have hup := upd_same hm
  have hrel := RelM.rebox (w' := w'') h id ⟨b.sz, els', ver, false⟩ lc (by rw [hlv, hbv]) hls (later_same hm) (.inl hm) ⟨hext.os, hext.tape, hext.output⟩ hext.size
    (fun q hq hno => hext.old q hq fun hbl => by obtain ⟨n, hn⟩ := blks_mu1.1 hbl; exact hno lc n hm hn) (fun g n hg => .inl ⟨lc, n, hm, hg⟩) (by
      rw [upd_same hm]
      unfold Holds at hh' ⊢
      refine ⟨hh'.1, ?_⟩
      have h2 := hh'.2
      simp only [Bool.false_eq_true, if_false] at h2 ⊢
      rw [show l.blk = lc.blk from rfl] at h2
      cases hbk : lc.blk with
      | none => rw [hbk] at h2; exact h2
      | some gn =>
        obtain ⟨g', n'⟩ := gn
        rw [hbk] at h2
        refine ⟨fun hz => ?_, fun hz => ?_⟩
        · obtain ⟨c, el, hw, hcs, hfit, h1, hr⟩ := h2.1 hz
          exact ⟨c, el, hw, hcs, hfit, h1, fun i hi => ⟨(hr i hi).1, (hr i hi).2.mono (fun q hq _ => ⟨fun hy => hq ((hY q).2 hy), rfl⟩) (Mu.later.refl _)⟩⟩
        · obtain ⟨hv0, es, clock, hw, hs, hr⟩ := h2.2 hz
          exact ⟨by first | rfl | trivial | exact hv0, es, clock, hw, hs, fun i hi => (hr i hi).mono (fun q hq _ => ⟨fun hy => hq ((hY q).2 hy), rfl⟩) (Mu.later.refl _)⟩)
  rw [upd_same hm] at hrel
  refine ⟨v, rfl, hk _ _ ⟨μ, hrel.app hd ?_⟩⟩
  cases r with
  | val x => exact Rep.mono (fun q hq _ => ⟨fun hy => hq ((hY q).2 hy), rfl⟩) hret (Mu.none_later μ)
  | part len =>
    simp only [LRet.rep] at hret
    simp only [LRet.av]
    cases hret with
    | slNil hm' hv' hnf =>
      simp only [mu1, if_true, Option.some.injEq] at hm'
      subst hm'
      exact .slNil (loc := lc) hm (by rw [hlv, hbv]) hnf
    | sl hm' hv' hbk hcap hfit hz =>
      simp only [mu1, if_true, Option.some.injEq] at hm'
      subst hm'
      exact .sl (loc := lc) hm (by rw [hlv, hbv]) hbk hcap hfit hz
    | slOld hm' hv' =>
      simp only [mu1, if_true, Option.some.injEq] at hm'
      subst hm'
      exact absurd hv' (by simp [l])

end
end Go.Abs
end

section
/- The value layer, part 32 (between 26 and 16): boxes that are lent under other names. -/
namespace Go.Abs

mutual
/-- Other names for boxes. -/
def renA (f : Nat → Nat → Option (Nat × Nat)) : AV → AV
  | .sl i ver off len => match f i ver with | some (j, u) => .sl j u off len | none => .junk
  | .pt i ver idx o => match f i ver with | some (j, u) => .pt j u idx o | none => .junk
  | .mp i ver => match f i ver with | some (j, u) => .mp j u | none => .junk
  | .agg l => .agg (renL f l)
  | .tup l => .tup (renL f l)
  | .fn g p q => .fn g (renL f p) (renL f q)
  | .maybe g a => .maybe g (renA f a)
  | .raw v => .raw v
  | .seq sz l full => .seq sz l full
  | .ipt e o => .ipt e o
  | .map l => .map l
  | .junk => .junk
def renL (f : Nat → Nat → Option (Nat × Nat)) : List AV → List AV
  | [] => []
  | a :: l => renA f a :: renL f l
end

theorem renL_length {f : Nat → Nat → Option (Nat × Nat)} : ∀ {l : List AV}, (renL f l).length = l.length
  | [] => rfl
  | a :: l => by simp [renL, renL_length]
theorem renL_get {f : Nat → Nat → Option (Nat × Nat)} : ∀ {l : List AV} {i : Nat}, i < l.length → (renL f l).getD i .junk = renA f (l.getD i .junk)
  | a :: l, 0, _ => by simp [renL]
  | a :: l, i + 1, h => by simpa [renL] using renL_get (l := l) (i := i) (by simpa using h)
theorem renA_width {f : Nat → Nat → Option (Nat × Nat)} (a : AV) : (renA f a).width = a.width := by
  cases a with
  | agg l => simp only [renA, AV.width, renL_length]
  | sl i ver off len => simp only [renA]; split <;> rfl
  | pt i ver idx o => simp only [renA]; split <;> rfl
  | mp i ver => simp only [renA]; split <;> rfl
  | _ => simp only [renA, AV.width]
theorem renA_elemVal {f : Nat → Nat → Option (Nat × Nat)} (a : AV) (sz : Nat) (c : Array Value) (o : Nat) : elemVal (renA f a) sz c o = elemVal a sz c o := by
  cases a with
  | agg l => simp only [renA, elemVal]
  | sl i ver off len => simp only [renA]; split <;> rfl
  | pt i ver idx o => simp only [renA]; split <;> rfl
  | mp i ver => simp only [renA]; split <;> rfl
  | _ => simp only [renA, elemVal]

/-- The names lead to the same places. -/
def Leads (f : Nat → Nat → Option (Nat × Nat)) (μ μ' : Mu) : Prop :=
  ∀ i ver j u, f i ver = some (j, u) → ∃ l l', μ i = some l ∧ l.ver = ver ∧ μ' j = some l' ∧ l'.ver = u ∧ l'.sz = l.sz ∧ l'.base = l.base ∧ l'.blk = l.blk

theorem ren_rep {w : World} {Y : Nat → Prop} {f : Nat → Nat → Option (Nat × Nat)} {μ0 μ' : Mu} (hf : Leads f μ0 μ') {μ : Mu} {a : AV} {v : Value} (h : Rep w Y μ a v) : μ = μ0 → Rep w Y μ' (renA f a) v := by
  induction h with
  | raw h => intro _; simp only [renA]; exact .raw h
  | agg h0 h1 h ih =>
    intro e
    simp only [renA]
    refine .agg (by rw [renL_length]; exact h0) (fun i hi' => h1 i (by rwa [renL_length] at hi')) (fun i hi' => ?_)
    rw [renL_length] at hi'
    rw [renL_get hi']
    exact ih i hi' e
  | tup h0 h ih =>
    intro e
    simp only [renA]
    refine .tup (by rw [renL_length]; exact h0) (fun i hi' => ?_)
    rw [renL_length] at hi'
    rw [renL_get hi']
    exact ih i hi' e
  | nil => intro _; simp only [renA]; exact .nil
  | seq hY hb hc hf hbig hfit hw h1 h ih => intro _; simp only [renA]; exact .seq hY hb hc hf hbig hfit hw h1 h
  | ipt hY hb hfit h1 h ih => intro _; simp only [renA]; exact .ipt hY hb hfit h1 h
  | pt hm hv hb hz =>
    rename_i μ i ver idx sub loc g n
    intro e; subst e
    simp only [renA]
    split
    · rename_i j u hj
      obtain ⟨l, l', h1, h2, h3, h4, h5, h6, h7⟩ := hf _ _ _ _ hj
      rw [hm] at h1; cases h1
      rw [← h5, ← h6]
      exact .pt h3 h4 (h7.trans hb) (by rw [h5]; exact hz)
    · exact .junk
  | ptOld hm hv =>
    rename_i μ i ver idx sub loc v
    intro e; subst e
    simp only [renA]
    split
    · rename_i j u hj
      obtain ⟨l, l', h1, h2, h3, h4, h5, h6, h7⟩ := hf _ _ _ _ hj
      rw [hm] at h1; cases h1
      omega
    · exact .junk
  | slNil hm hv hnf =>
    rename_i μ i ver off loc p
    intro e; subst e
    simp only [renA]
    split
    · rename_i j u hj
      obtain ⟨l, l', h1, h2, h3, h4, h5, h6, h7⟩ := hf _ _ _ _ hj
      rw [hm] at h1; cases h1
      exact .slNil h3 h4 (by rw [h5, h6, h7]; exact hnf)
    · exact .junk
  | sl hm hv hb hc hfit hz =>
    rename_i μ i ver off len cap loc g n
    intro e; subst e
    simp only [renA]
    split
    · rename_i j u hj
      obtain ⟨l, l', h1, h2, h3, h4, h5, h6, h7⟩ := hf _ _ _ _ hj
      rw [hm] at h1; cases h1
      rw [← h5, ← h6]
      exact .sl h3 h4 (h7.trans hb) hc (by rw [h5, h6]; exact hfit) (by rw [h5]; exact hz)
    · exact .junk
  | slOld hm hv =>
    rename_i μ i ver off len loc v
    intro e; subst e
    simp only [renA]
    split
    · rename_i j u hj
      obtain ⟨l, l', h1, h2, h3, h4, h5, h6, h7⟩ := hf _ _ _ _ hj
      rw [hm] at h1; cases h1
      omega
    · exact .junk
  | mp hm hv hb hz =>
    rename_i μ i ver loc g n
    intro e; subst e
    simp only [renA]
    split
    · rename_i j u hj
      obtain ⟨l, l', h1, h2, h3, h4, h5, h6, h7⟩ := hf _ _ _ _ hj
      rw [hm] at h1; cases h1
      exact .mp h3 h4 (h7.trans hb) (by rw [h5]; exact hz)
    · exact .junk
  | mpOld hm hv =>
    rename_i μ i ver loc v
    intro e; subst e
    simp only [renA]
    split
    · rename_i j u hj
      obtain ⟨l, l', h1, h2, h3, h4, h5, h6, h7⟩ := hf _ _ _ _ hj
      rw [hm] at h1; cases h1
      omega
    · exact .junk
  | map hY hb hs hbig h ih => intro _; simp only [renA]; exact .map hY hb hs hbig h
  | fn h0 ht h k ih ik =>
    intro e
    simp only [renA]
    refine .fn (by rw [renL_length]; exact h0) (by rw [renL_length]; exact ht) (fun i hi' => ?_) (fun i hi' => ?_)
    · rw [renL_length] at hi'; rw [renL_get hi']; exact ih i hi' e
    · rw [renL_length] at hi'; rw [renL_get hi']; exact ik i hi' e
  | maybe h0 h ih => intro e; simp only [renA]; exact .maybe h0 fun g => ih g e
  | junk => intro _; simp only [renA]; exact .junk

/-- A box and its name in the callee: its number and version here, its number there (where its version is 0). -/
abbrev Names := List (Nat × Nat × Nat)
def upN : Names → Nat → Nat → Option (Nat × Nat)
  | [], _, _ => none
  | (a, b, c) :: l, i, v => if a = i ∧ b = v then some (c, 0) else upN l i v
def dnO : Names → Nat → Option (Nat × Nat)
  | [], _ => none
  | (a, b, c) :: l, j => if c = j then some (a, b) else dnO l j
def dnN (σ : Names) (j u : Nat) : Option (Nat × Nat) := if u = 0 then dnO σ j else none
def namesOK (m : List (Nat × Option Box)) : Names → Prop
  | [] => True
  | (a, b, c) :: l => (match find m a with | some x => x.ver = b | none => False) ∧ (l.all fun p => decide (p.1 ≠ a) && decide (p.2.2 ≠ c)) = true ∧ namesOK m l
def lendM (σ : Names) (m : List (Nat × Option Box)) : Names → List (Nat × Option Box)
  | [] => []
  | (a, _, c) :: l => (c, (find m a).map fun x => ⟨x.sz, if x.var then renL (upN σ) x.els else x.els, 0, x.var⟩) :: lendM σ m l
def backM (σ : Names) (m' : List (Nat × Option Box)) : Names → List (Nat × Option Box)
  | [] => []
  | (a, b, c) :: l => (a, (find m' c).map fun x => ⟨x.sz, if x.var then renL (dnN σ) x.els else x.els, b, x.var⟩) :: backM σ m' l

theorem upN_mem : ∀ {σ : Names} {i v : Nat} {x : Nat × Nat}, upN σ i v = some x → ∃ c, (i, v, c) ∈ σ ∧ x = (c, 0)
  | (a, b, c) :: l, i, v, x, h => by
    simp only [upN] at h
    split at h
    · rename_i e
      obtain ⟨rfl, rfl⟩ := e
      cases h
      exact ⟨c, by simp, rfl⟩
    · obtain ⟨c', h1, h2⟩ := upN_mem h
      exact ⟨c', by simp [h1], h2⟩
theorem dnO_mem : ∀ {σ : Names} {j : Nat} {x : Nat × Nat}, dnO σ j = some x → (x.1, x.2, j) ∈ σ
  | (a, b, c) :: l, j, x, h => by
    simp only [dnO] at h
    split at h
    · rename_i e
      subst e
      cases h
      simp
    · have := dnO_mem h
      simp [this]
theorem mem_dnO {m : List (Nat × Option Box)} : ∀ {σ : Names}, namesOK m σ → ∀ {a b c : Nat}, (a, b, c) ∈ σ → dnO σ c = some (a, b)
  | (a0, b0, c0) :: l, h, a, b, c, hm => by
    obtain ⟨_, h2, h3⟩ := h
    simp only [dnO]
    rcases List.mem_cons.1 hm with e | hm
    · cases e
      rw [if_pos rfl]
    · have := List.all_eq_true.1 h2 _ hm
      simp only [Bool.and_eq_true, decide_eq_true_eq] at this
      rw [if_neg (fun e => this.2 e.symm)]
      exact mem_dnO h3 hm
theorem names_mem {m : List (Nat × Option Box)} : ∀ {σ : Names}, namesOK m σ → ∀ {a b c : Nat}, (a, b, c) ∈ σ → ∃ x, find m a = some x ∧ x.ver = b
  | (a0, b0, c0) :: l, h, a, b, c, hm => by
    obtain ⟨h1, _, h3⟩ := h
    rcases List.mem_cons.1 hm with e | hm
    · cases e
      split at h1
      · rename_i x hx; exact ⟨x, hx, h1⟩
      · exact h1.elim
    · exact names_mem h3 hm
theorem names_one {m : List (Nat × Option Box)} : ∀ {σ : Names}, namesOK m σ → ∀ {a b c b' c' : Nat}, (a, b, c) ∈ σ → (a, b', c') ∈ σ → b = b' ∧ c = c'
  | (a0, b0, c0) :: l, h, a, b, c, b', c', hm, hm' => by
    obtain ⟨_, h2, h3⟩ := h
    rcases List.mem_cons.1 hm with e | hm
    · cases e
      rcases List.mem_cons.1 hm' with e | hm'
      · cases e; exact ⟨rfl, rfl⟩
      · have := List.all_eq_true.1 h2 _ hm'
        simp at this
    · rcases List.mem_cons.1 hm' with e | hm'
      · cases e
        have := List.all_eq_true.1 h2 _ hm
        simp at this
      · exact names_one h3 hm hm'
theorem find_lendM {σ0 : Names} {m : List (Nat × Option Box)} : ∀ (σ : Names) (j : Nat), find (lendM σ0 m σ) j = (dnO σ j).bind fun p => (find m p.1).map fun x => ⟨x.sz, if x.var then renL (upN σ0) x.els else x.els, 0, x.var⟩
  | [], j => rfl
  | (a, b, c) :: l, j => by
    simp only [lendM, find, dnO]
    by_cases e : j = c
    · rw [if_pos e, if_pos e.symm]; rfl
    · rw [if_neg e, if_neg (fun h => e h.symm)]
      exact find_lendM l j
/-- The name in the callee. -/
def upI : Names → Nat → Option (Nat × Nat)
  | [], _ => none
  | (a, b, c) :: l, i => if a = i then some (b, c) else upI l i
theorem upI_mem : ∀ {σ : Names} {i : Nat} {x : Nat × Nat}, upI σ i = some x → (i, x.1, x.2) ∈ σ
  | (a, b, c) :: l, i, x, h => by
    simp only [upI] at h
    split at h
    · rename_i e
      subst e
      cases h
      simp
    · have := upI_mem h
      simp [this]
theorem upI_none : ∀ {σ : Names} {i b c : Nat}, upI σ i = none → (i, b, c) ∉ σ
  | [], _, _, _, _ => by simp
  | (a0, b0, c0) :: l, i, b, c, h => by
    simp only [upI] at h
    split at h
    · cases h
    · rename_i e
      intro hm
      rcases List.mem_cons.1 hm with e2 | hm
      · cases e2; exact e rfl
      · exact upI_none h hm
theorem find_backM {σ0 : Names} {m' m : List (Nat × Option Box)} : ∀ (σ : Names) (i : Nat), find (backM σ0 m' σ ++ m) i = match upI σ i with
    | some p => (find m' p.2).map fun x => ⟨x.sz, if x.var then renL (dnN σ0) x.els else x.els, p.1, x.var⟩
    | none => find m i
  | [], i => rfl
  | (a, b, c) :: l, i => by
    simp only [backM, List.cons_append, find, upI]
    by_cases e : i = a
    · rw [if_pos e, if_pos e.symm]
    · rw [if_neg e, if_neg (fun h => e h.symm)]
      exact find_backM l i

/-- The contract of a function to which boxes are lent. -/
def CallB (P : Program) (f : FuncId) (as : List AV) (m : List (Nat × Option Box)) (r : AV) (m' : List (Nat × Option Box)) : Prop :=
  Enter P f ∧ ∀ (w : World) (X : Nat → Prop) (μ : Mu) (vs : Array Value), (∀ b, X b → b < w.heap.size) → Inv w X μ m → (∀ id l, μ id = some l → l.ver = 0) → vs.size = as.length →
    (∀ i, i < as.length → Rep w (Yof X μ) μ (as.getD i .junk) (vs.getD i undef)) →
    Calls P f vs w fun e w' => ∃ v, e = .returned v ∧ Ext w w' (blks μ) ∧ Inv w' X μ m' ∧ Rep w' (Yof X μ) μ r v

section
variable {P : Program} {T : TT} {B : Base} {w : World} {a : Act} {s : St}

def muN (σ : Names) (μ : Mu) : Mu := fun j => (dnO σ j).bind fun p => (μ p.1).map fun l => ⟨0, l.sz, l.base, l.blk⟩
theorem muN_some {σ : Names} {μ : Mu} {j : Nat} {l' : Loc} (h : muN σ μ j = some l') : ∃ i v l, (i, v, j) ∈ σ ∧ μ i = some l ∧ l' = ⟨0, l.sz, l.base, l.blk⟩ := by
  unfold muN at h
  cases hd : dnO σ j with
  | none => rw [hd] at h; cases h
  | some p =>
    rw [hd] at h
    simp only [Option.bind_some, Option.map_eq_some_iff] at h
    obtain ⟨l, hl, rfl⟩ := h
    exact ⟨p.1, p.2, l, dnO_mem hd, hl, rfl⟩
theorem muN_of {σ : Names} {m : List (Nat × Option Box)} (hσ : namesOK m σ) {μ : Mu} {i v j : Nat} {l : Loc} (h : (i, v, j) ∈ σ) (hl : μ i = some l) : muN σ μ j = some ⟨0, l.sz, l.base, l.blk⟩ := by
  unfold muN
  rw [mem_dnO hσ h]
  simp [hl]
theorem blks_muN {σ : Names} {μ : Mu} {g : Nat} (h : blks (muN σ μ) g) : ∃ i v j l n, (i, v, j) ∈ σ ∧ μ i = some l ∧ l.blk = some (g, n) := by
  obtain ⟨j, l', n, hm, hb⟩ := h
  obtain ⟨i, v, l, h1, h2, rfl⟩ := muN_some hm
  exact ⟨i, v, j, l, n, h1, h2, hb⟩

/-- A call to which boxes are lent. -/
theorem boxes_wp {o : Oper} (hrel : Rel B w a s) {f : Operand} {args : Array Operand} {ts : Array TypeId} (ho : o.op = .call ⟨.value f, args, ts⟩) (hf : firms s.env (firm o.op)) {g : FuncId} {as : List AV}
    (htgt : tgt (st (ev s.env f)) (nrmL T ts.toList (args.toList.map fun x => st (ev s.env x))) = some (g, as)) (σ : Names) (hσ : namesOK s.mem σ) {r : AV} {m' : List (Nat × Option Box)}
    (hc : CallB P g (renL (upN σ) as) (lendM σ s.mem σ) r m') (hd : ∀ k, o.dst = some k → k < B.N) {next : Act → World → Prop} {Q : Exit → Act → World → Prop}
    (hk : ∀ a' w', Rel B w' a' (s.app o.dst (renA (dnN σ) r) (backM σ m' σ)) → next a' w') : o.wp P a w next Q := by
  obtain ⟨μ, h⟩ := hrel
  refine call_wp h ho hf htgt hc.1 fun vs hsz hall => ?_
  have hμ : ∀ {i v j : Nat}, (i, v, j) ∈ σ → ∃ b l, find s.mem i = some b ∧ b.ver = v ∧ μ i = some l ∧ l.ver = v ∧ l.sz = b.sz ∧ Holds w (Yof B.X μ) μ l b := by
    intro i v j hm
    obtain ⟨b, hb, hv⟩ := names_mem hσ hm
    obtain ⟨l, h1, h2, h3, h4⟩ := h.inv.box i b hb
    exact ⟨b, l, hb, hv, h1, by rw [h2, hv], h3, h4⟩
  let X : Nat → Prop := fun q => Yof B.X μ q ∧ ¬ blks (muN σ μ) q
  have hsub : ∀ q, blks (muN σ μ) q → blks μ q := by
    intro q hq
    obtain ⟨i, v, j, l, n, _, h2, h3⟩ := blks_muN hq
    exact ⟨i, l, n, h2, h3⟩
  have hY : ∀ q, Yof X (muN σ μ) q ↔ Yof B.X μ q := by
    intro q
    constructor
    · rintro (hx | hx)
      · exact hx.1
      · exact .inr (hsub q hx)
    · intro hy
      by_cases e : blks (muN σ μ) q
      · exact .inr e
      · exact .inl ⟨hy, e⟩
  have hup : Leads (upN σ) μ (muN σ μ) := by
    intro i ver j u hj
    obtain ⟨c, hm, e⟩ := upN_mem hj
    cases e
    obtain ⟨b, l, _, _, h3, h4, _, _⟩ := hμ hm
    exact ⟨l, _, h3, h4, muN_of hσ hm h3, rfl, rfl, rfl, rfl⟩
  have hdn : Leads (dnN σ) (muN σ μ) μ := by
    intro j u i ver hj
    unfold dnN at hj
    split at hj
    · rename_i e
      subst e
      have hm := dnO_mem hj
      obtain ⟨b, l, _, _, h3, h4, _, _⟩ := hμ hm
      exact ⟨_, l, muN_of hσ hm h3, rfl, h3, h4, rfl, rfl, rfl⟩
    · cases hj
  have hkeep : ∀ q, ¬ Yof B.X μ q → q < w.heap.size → ¬ Yof X (muN σ μ) q ∧ w.heap[q]? = w.heap[q]? := fun q hq _ => ⟨fun hy => hq ((hY q).1 hy), rfl⟩
  have hinv : Inv w X (muN σ μ) (lendM σ s.mem σ) := by
    refine ⟨fun j hj => ?_, fun j b' hj => ?_, fun j j' l l' g n n' h1 h2 h3 h4 => ?_, fun g hg hx => hx.2 hg⟩
    · rw [find_lendM] at hj
      unfold muN
      cases hd : dnO σ j with
      | none => rfl
      | some p =>
        rw [hd] at hj
        obtain ⟨b, l, hb, _⟩ := hμ (dnO_mem hd)
        simp [hb] at hj
    · rw [find_lendM] at hj
      cases hd : dnO σ j with
      | none => rw [hd] at hj; cases hj
      | some p =>
        rw [hd] at hj
        have hm := dnO_mem hd
        obtain ⟨b, l, hb, hv, hml, hlv, hls, hh⟩ := hμ hm
        simp only [Option.bind_some, hb, Option.map_some, Option.some.injEq] at hj
        subst hj
        refine ⟨_, muN_of hσ hm hml, rfl, hls, ?_⟩
        unfold Holds at hh ⊢
        have hlen : (if b.var = true then renL (upN σ) b.els else b.els).length = b.els.length := by split <;> simp [renL_length]
        refine ⟨by dsimp only; rw [hlen]; exact hh.1, ?_⟩
        have h2 := hh.2
        dsimp only
        cases hbk : l.blk with
        | none =>
          rw [hbk] at h2
          exact List.eq_nil_of_length_eq_zero (by rw [hlen, h2]; rfl)
        | some gn =>
          obtain ⟨g', n'⟩ := gn
          rw [hbk] at h2
          refine ⟨fun hz => ?_, fun hz => ?_⟩
          · obtain ⟨c, el, hw, hcs, hfit, h1, hr⟩ := h2.1 hz
            refine ⟨c, el, hw, hcs, by rw [hlen]; exact hfit, h1, fun k hk => ?_⟩
            rw [hlen] at hk
            obtain ⟨r1, r2⟩ := hr k hk
            cases hvr : b.var with
            | true =>
              rw [hvr] at r2
              simp only [if_true] at r2 ⊢
              rw [renL_get hk, renA_width, renA_elemVal]
              exact ⟨r1, (ren_rep hup r2 rfl).mono hkeep (Mu.later.refl _)⟩
            | false =>
              rw [hvr] at r2
              simp only [Bool.false_eq_true, if_false] at r2 ⊢
              exact ⟨r1, r2.mono hkeep (Mu.later.refl _)⟩
          · obtain ⟨hv0, es, clock, hw, hs, hr⟩ := h2.2 hz
            simp only [hv0, Bool.false_eq_true, if_false]
            exact ⟨trivial, es, clock, hw, hs, fun i hi => (hr i hi).mono hkeep (Mu.later.refl _)⟩
    · obtain ⟨i, v, l1, m1, e1, rfl⟩ := muN_some h1
      obtain ⟨i', v', l2, m2, e2, rfl⟩ := muN_some h2
      have := h.inv.apart i i' l1 l2 g n n' e1 e2 h3 h4
      subst this
      exact (names_one hσ m1 m2).2
  have := hc.2 w X (muN σ μ) vs (fun q hq => by
    rcases hq.1 with hx | hx
    · exact Nat.lt_of_lt_of_le (h.base q hx).1 h.ext.size
    · exact blks.lt h.inv hx) hinv (fun id l hl => by
    obtain ⟨_, _, _, _, _, rfl⟩ := muN_some hl
    rfl) (by rw [renL_length]; exact hsz) (fun i hi => by
    rw [renL_length] at hi
    rw [renL_get hi]
    exact (ren_rep hup (hall i hi) rfl).mono hkeep (Mu.later.refl _))
  refine Calls.mono this ?_
  rintro e w'' ⟨v, rfl, hext, hinv', hret⟩
  have hback : ∀ q, ¬ Yof X (muN σ μ) q → q < w''.heap.size → ¬ Yof B.X μ q ∧ w''.heap[q]? = w''.heap[q]? := fun q hq _ => ⟨fun hy => hq ((hY q).2 hy), rfl⟩
  have hold : ∀ q, ¬ Yof B.X μ q → q < w.heap.size → ¬ Yof B.X μ q ∧ w''.heap[q]? = w.heap[q]? := fun q hq hlt => ⟨hq, hext.old q hlt fun hb => hq (.inr (hsub q hb))⟩
  have hrel : RelM B w'' a ⟨s.env, backM σ m' σ ++ s.mem⟩ μ := by
    refine ⟨h.defers, h.size, ⟨fun i hi => ?_, fun i b' hi => ?_, h.inv.apart, h.inv.out⟩, fun t => (h.env t).mono hold (Mu.later.refl _), h.ext.trans hext fun g hg hbl => ?_, h.mine, h.base, h.kept⟩
    · dsimp only at hi
      rw [find_backM] at hi
      cases hu : upI σ i with
      | none => rw [hu] at hi; exact h.inv.no i hi
      | some p =>
        rw [hu] at hi
        simp only [Option.map_eq_none_iff] at hi
        have hm := upI_mem hu
        obtain ⟨b, l, _, _, h3, _⟩ := hμ hm
        have h4 := hinv'.no _ hi
        rw [muN_of hσ hm h3] at h4
        cases h4
    · dsimp only at hi
      rw [find_backM] at hi
      cases hu : upI σ i with
      | none =>
        rw [hu] at hi
        obtain ⟨l, h1, h2, h3, h4⟩ := h.inv.box i b' hi
        refine ⟨l, h1, h2, h3, h4.mono hold (Mu.later.refl _) fun g n hg => hext.old g (blks.lt h.inv ⟨i, l, n, h1, hg⟩) fun hbl => ?_⟩
        obtain ⟨i', v, j, l', n', hm, e1, e2⟩ := blks_muN hbl
        have := h.inv.apart i i' l l' g n n' h1 e1 hg e2
        subst this
        exact upI_none hu hm
      | some p =>
        rw [hu] at hi
        simp only [Option.map_eq_some_iff] at hi
        obtain ⟨x, hx, rfl⟩ := hi
        have hm := upI_mem hu
        obtain ⟨b, l, hb, hv, hml, hlv, hls, _⟩ := hμ hm
        obtain ⟨l', e1, e2, e3, hh⟩ := hinv'.box _ x hx
        rw [muN_of hσ hm hml] at e1
        cases e1
        dsimp only at e2 e3
        refine ⟨l, hml, hlv, e3, ?_⟩
        unfold Holds at hh ⊢
        have hlen : (if x.var = true then renL (dnN σ) x.els else x.els).length = x.els.length := by split <;> simp [renL_length]
        refine ⟨by dsimp only; rw [hlen]; exact hh.1, ?_⟩
        have h2 := hh.2
        dsimp only at h2 ⊢
        cases hbk : l.blk with
        | none =>
          rw [hbk] at h2
          exact List.eq_nil_of_length_eq_zero (by rw [hlen, h2]; rfl)
        | some gn =>
          obtain ⟨g', n'⟩ := gn
          rw [hbk] at h2
          refine ⟨fun hz => ?_, fun hz => ?_⟩
          · obtain ⟨c, el, hw, hcs, hfit, h1, hr⟩ := h2.1 hz
            refine ⟨c, el, hw, hcs, by rw [hlen]; exact hfit, h1, fun k hk => ?_⟩
            rw [hlen] at hk
            obtain ⟨r1, r2⟩ := hr k hk
            cases hvr : x.var with
            | true =>
              rw [hvr] at r2
              simp only [if_true] at r2 ⊢
              rw [renL_get hk, renA_width, renA_elemVal]
              exact ⟨r1, (ren_rep hdn r2 rfl).mono hback (Mu.later.refl _)⟩
            | false =>
              rw [hvr] at r2
              simp only [Bool.false_eq_true, if_false] at r2 ⊢
              exact ⟨r1, r2.mono hback (Mu.later.refl _)⟩
          · obtain ⟨hv0, es, clock, hw, hs, hr⟩ := h2.2 hz
            simp only [hv0, Bool.false_eq_true, if_false]
            exact ⟨trivial, es, clock, hw, hs, fun i hi => (hr i hi).mono hback (Mu.later.refl _)⟩
    · rcases h.mine g (hsub g hbl) with ho | hge
      · exact ho
      · omega
  exact ⟨v, rfl, hk _ _ ⟨μ, hrel.app hd ((ren_rep hdn hret rfl).mono hback (Mu.later.refl _))⟩⟩
end
end Go.Abs
end

section
/- The value layer, part 16: guards; on what a step hangs. -/
namespace Go.Abs

/-- An operation of a region, its guard by the slot. -/
def aoper (ops : Array Oper) (o : Oper) : Option AOper :=
  match o.guard with
  | none => some ⟨o.dst, o.op, o.type, none⟩
  | some (j, want) => match (ops[j]?).bind (·.dst) with
    | some t => some ⟨o.dst, o.op, o.type, some (t, want)⟩
    | none => none

section
variable {P : Program} {T : TT} (hT : TOK P T) {B : Base} {w : World} {a : Act} {s : St}

theorem yielded_guard {ops : Array Oper} {j t : Nat} {want c : Bool} (ht : (ops[j]?).bind (·.dst) = some t) {μ : Mu} (h : RelM B w a s μ) (hg : guardOf (get s.env t) want = some c) :
    (yielded ops a.tmps j == some want) = c := by
  have hr := h.env t
  have key : ∀ b, a.tmps.getD t undef = .bool b → a.tmps[t]? = some (.bool b) := by
    intro b hb
    rw [Array.getD_eq_getD_getElem?] at hb
    cases hq : a.tmps[t]? with
    | none => rw [hq] at hb; simp [undef] at hb
    | some v => rw [hq] at hb; simp at hb; rw [hb]
  unfold guardOf at hg
  unfold yielded
  rw [ht]
  simp only [Option.bind_some]
  split at hg
  · rename_i b hget
    rw [hget] at hr
    have := key b hr.one.1
    rw [this]
    simpa using hg
  · rename_i p b hget
    rw [hget] at hr
    cases hr with
    | maybe h0 h1 =>
      cases p with
      | true =>
        have := key b (h1 rfl).one.1
        rw [this]
        simpa using hg
      | false =>
        have h2 := h0 rfl
        have hnb : ∀ b, a.tmps[t]? ≠ some (.bool b) := by
          intro b hb
          rw [Array.getD_eq_getD_getElem?, hb] at h2
          simp [undef] at h2
        simp at hg
        subst hg
        cases hq : a.tmps[t]? with
        | none => rfl
        | some v =>
          cases v with
          | bool b => exact absurd hq (hnb b)
          | _ => rfl
  · cases hg

include hT in
/-- An operation of a region, guarded or not. -/
theorem steps_wpOp {O : List Nat} {ops : Array Oper} {i : Nat} {o : Oper} {ao : AOper} (hi : ops[i]? = some o) (hao : aoper ops o = some ao) (hd : ∀ k, o.dst = some k → k < B.N) {v : AV} {up : List (Nat × Option Box)}
    (hrel : Rel B w a s) (hs : Steps P T O ao s.env s.mem v up) {K : Act → World → Prop} {Q : Exit → Act → World → Prop}
    (hk : ∀ w' a', Rel B w' a' (s.app o.dst v up) → K a' w') : wpOp P ops Q i K a w := by
  unfold wpOp
  rw [hi]
  simp only
  unfold aoper at hao
  unfold Region.wanted
  cases hg : o.guard with
  | none =>
    rw [hg] at hao
    simp only [Option.some.injEq] at hao
    subst hao
    simp only [if_true]
    exact .inl (stepOK_wp hT hrel hs fun w' v' μ' hrel' hrep => hk _ _ ⟨μ', hrel'.app hd hrep⟩)
  | some gw =>
    obtain ⟨j, want⟩ := gw
    rw [hg] at hao
    simp only at hao
    cases ht : (ops[j]?).bind (·.dst) with
    | none => rw [ht] at hao; cases hao
    | some t =>
      rw [ht] at hao
      simp only [Option.some.injEq] at hao
      subst hao
      simp only [Steps] at hs
      cases hc : guardOf (get s.env t) want with
      | none => rw [hc] at hs; exact hs.elim
      | some c =>
        rw [hc] at hs
        obtain ⟨x, rfl, hstep, hup⟩ := hs
        obtain ⟨μ, h⟩ := hrel
        change (if (yielded ops a.tmps j == some want) = true then _ else _)
        rw [yielded_guard ht h hc]
        cases c with
        | true =>
          simp only [if_true]
          exact .inl (stepOK_wp hT ⟨μ, h⟩ (hstep rfl) fun w' v' μ' hrel' hrep => hk _ _ ⟨μ', hrel'.app hd (.maybe (fun h => by cases h) fun _ => hrep)⟩)
        | false =>
          simp only [Bool.false_eq_true, if_false]
          have hup' : up = [] := by
            rcases hup with h | h
            · cases h
            · exact h
          subst hup'
          exact hk _ _ ⟨μ, RelM.app (up := []) h hd (.maybe (fun _ => rfl) fun h => by cases h)⟩
end

/-! ### on what a step hangs -/
def eqOn (ids : List Nat) (m m' : List (Nat × Option Box)) : Prop := ∀ id ∈ ids, find m id = find m' id

theorem nver_local {m m' : List (Nat × Option Box)} {d : Nat} (h : find m d = find m' d) : nver m d = nver m' d := by simp [nver, h]

theorem solid_local {m m' : List (Nat × Option Box)} {x : AV} (h : eqOn x.refs m m') : AV.solid m x = AV.solid m' x := by
  cases x with
  | pt id ver idx o => simp only [AV.solid]; rw [h id (by simp [AV.refs])]
  | sl id ver off len => simp only [AV.solid]; rw [h id (by simp [AV.refs])]
  | mp id ver => simp only [AV.solid]; rw [h id (by simp [AV.refs])]
  | _ => rfl

theorem nrm_refs {T : TT} {t : Nat} {x : AV} : (nrm T t x).refs = x.refs := by
  unfold nrm
  split
  · simp [AV.refs]
  · rfl

theorem elems_local {m m' : List (Nat × Option Box)} {x : AV} (h : eqOn x.refs m m') : elems m x = elems m' x := by
  cases x <;> simp only [elems]
  rw [h _ (by simp [AV.refs])]

theorem elemsV_local {m m' : List (Nat × Option Box)} {x : AV} (h : eqOn x.refs m m') : elemsV m x = elemsV m' x := by
  cases x <;> simp only [elemsV]
  rw [h _ (by simp [AV.refs])]

theorem ments_local {m m' : List (Nat × Option Box)} {x : AV} (h : eqOn x.refs m m') : ments m x = ments m' x := by
  cases x <;> simp only [ments]
  rw [h _ (by simp [AV.refs])]

theorem partsOK_local {m m' : List (Nat × Option Box)} : ∀ {l : List (Nat × AV)}, (∀ p ∈ l, eqOn p.2.refs m m') → partsOK m l = partsOK m' l
  | [], _ => rfl
  | p :: l, h => by
    simp only [partsOK]
    rw [solid_local (h p (by simp)), partsOK_local (fun q hq => h q (by simp [hq]))]

theorem nrms_mem {T : TT} {k : TK} : ∀ {l : List (Nat × AV)} {p : Nat × AV}, p ∈ nrms T k l → ∃ q ∈ l, p.2.refs = q.2.refs
  | q :: l, p, h => by
    simp only [nrms, List.mem_cons] at h
    rcases h with rfl | h
    · exact ⟨q, by simp, nrm_refs⟩
    · obtain ⟨q', hq, e⟩ := nrms_mem h
      exact ⟨q', by simp [hq], e⟩

/-- The boxes that an operation can look into. -/
def isMv : Op → Bool
  | .move _ => true
  | .assign _ => true
  | _ => false
def opRefs (e : List (Nat × AV)) (op : Op) (d : Nat) : List Nat := d :: (if isMv op = true then [] else op.operands.toList.flatMap fun x => (ev e x).refs)

theorem opE_local {T : TT} {O : List Nat} {m m' : List (Nat × Option Box)} {d ty : Nat} {e e' : List (Nat × AV)} {op : Op} (he : ∀ x ∈ op.operands.toList, ev e x = ev e' x) (hm : eqOn (opRefs e op d) m m') :
    opE T O m d ty e op = opE T O m' d ty e' op := by
  have hd : find m d = find m' d := hm d (by simp [opRefs])
  by_cases hmv : isMv op = true
  · cases op with
    | move x =>
      rw [opE, opE, ← he x (by simp [Op.operands])]
      unfold moveE
      split <;> simp [nver_local hd]
    | assign x =>
      rw [opE, opE, ← he x (by simp [Op.operands])]
      unfold moveE
      split <;> simp [nver_local hd]
    | _ => cases hmv
  have hx : ∀ x ∈ op.operands.toList, eqOn (ev e x).refs m m' := fun x hx id hid => hm id (by simp only [opRefs, if_neg hmv, List.mem_cons, List.mem_flatMap]; exact .inr ⟨x, hx, hid⟩)
  have hs : ∀ x ∈ op.operands.toList, eqOn (st (ev e x)).refs m m' := fun x h => by rw [st_refs]; exact hx x h
  cases op with
  | move x =>
    rw [opE, opE, ← he x (by simp [Op.operands])]
    unfold moveE
    split <;> simp [nver_local hd]
  | assign x =>
    rw [opE, opE, ← he x (by simp [Op.operands])]
    unfold moveE
    split <;> simp [nver_local hd]
  | pick c x y => rw [opE, opE, ← he c (by simp [Op.operands]), ← he x (by simp [Op.operands]), ← he y (by simp [Op.operands])]
  | box t x =>
    rw [opE, opE, ← he x (by simp [Op.operands])]
    unfold boxE
    rw [nver_local hd, solid_local (by rw [nrm_refs]; exact hs x (by simp [Op.operands]))]
  | alloc t =>
    rw [opE, opE]
    unfold allocE
    rw [nver_local hd]
  | build t parts =>
    have hp : (parts.toList.map fun p => (p.1, st (ev e p.2))) = parts.toList.map fun p => (p.1, st (ev e' p.2)) :=
      List.map_congr_left fun p hp => by rw [he p.2 (by simp [Op.operands]; exact ⟨p.1, by simpa using hp⟩)]
    rw [opE, opE, ← hp]
    unfold buildE
    rw [partsOK_local (m := m) (m' := m') fun p hp' => by
      obtain ⟨q, hq, e1⟩ := nrms_mem hp'
      rw [e1]
      obtain ⟨q', hq', rfl⟩ := List.mem_map.1 hq
      exact hs q'.2 (by simp [Op.operands]; exact ⟨q'.1, by simpa using hq'⟩)]
  | buildSlice t len parts =>
    have hp : (parts.toList.map fun p => (p.1, st (ev e p.2))) = parts.toList.map fun p => (p.1, st (ev e' p.2)) :=
      List.map_congr_left fun p hp => by rw [he p.2 (by simp [Op.operands]; exact ⟨p.1, by simpa using hp⟩)]
    rw [opE, opE, ← hp]
    unfold sliceLitE
    split
    · rw [partsOK_local (m := m) (m' := m') fun p hp' => by
        obtain ⟨q, hq, e1⟩ := nrms_mem hp'
        rw [e1]
        obtain ⟨q', hq', rfl⟩ := List.mem_map.1 hq
        exact hs q'.2 (by simp [Op.operands]; exact ⟨q'.1, by simpa using hq'⟩), nver_local hd]
    · rfl
  | load t x =>
    rw [opE, opE, ← he x (by simp [Op.operands])]
    have h1 := hs x (by simp [Op.operands])
    cases hq : st (ev e x) <;> simp only [loadE]
    rw [hq] at h1
    rw [h1 _ (by simp [AV.refs])]
  | store t x y =>
    rw [opE, opE, ← he x (by simp [Op.operands]), ← he y (by simp [Op.operands])]
    have h1 := hs x (by simp [Op.operands])
    cases hq : st (ev e x) <;> simp only [storeE]
    rw [hq] at h1
    rw [h1 _ (by simp [AV.refs])]
    rw [solid_local (m := m) (m' := m') (by rw [nrm_refs]; exact hs y (by simp [Op.operands]))]
  | nilCheck x =>
    rw [opE, opE, ← he x (by simp [Op.operands])]
    have h1 := hs x (by simp [Op.operands])
    cases hq : st (ev e x) <;> simp only [nilE]
    rw [hq] at h1
    rw [h1 _ (by simp [AV.refs])]
  | binOp op t x y yt => rw [opE, opE, ← he x (by simp [Op.operands]), ← he y (by simp [Op.operands])]
  | unOp op t x => rw [opE, opE, ← he x (by simp [Op.operands])]
  | convert t t' x =>
    rw [opE, opE, ← he x (by simp [Op.operands])]
    unfold convX convB
    rw [elems_local (hs x (by simp [Op.operands]))]
  | makeMap t r =>
    have e1 : (r.map fun x => st (ev e x)) = r.map fun x => st (ev e' x) := by cases r with | none => rfl | some l => simp [he l (by simp [Op.operands])]
    rw [opE, opE, e1]
    unfold makeMapE
    rw [nver_local hd]
  | mapUpdate t x k v =>
    rw [opE, opE, ← he x (by simp [Op.operands]), ← he k (by simp [Op.operands]), ← he v (by simp [Op.operands])]
    have h1 := hs x (by simp [Op.operands])
    unfold mupdE
    cases tkind T t with
    | map kt et kk =>
      cases hq : st (ev e x) with
      | mp id ver =>
        rw [hq] at h1
        cases akey (st (ev e k)) with
        | none => rfl
        | some q => dsimp only; rw [h1 id (by simp [AV.refs])]
      | _ => rfl
    | _ => rfl
  | insert t x k v =>
    rw [opE, opE, ← he x (by simp [Op.operands]), ← he k (by simp [Op.operands]), ← he v (by simp [Op.operands])]
    have h1 := hs x (by simp [Op.operands])
    unfold mupdE
    cases tkind T t with
    | map kt et kk =>
      cases hq : st (ev e x) with
      | mp id ver =>
        rw [hq] at h1
        cases akey (st (ev e k)) with
        | none => rfl
        | some q => dsimp only; rw [h1 id (by simp [AV.refs])]
      | _ => rfl
    | _ => rfl
  | lookup t x k ok =>
    rw [opE, opE, ← he x (by simp [Op.operands]), ← he k (by simp [Op.operands])]
    unfold lookE
    rw [ments_local (hs x (by simp [Op.operands]))]
  | makeFunc fn f c =>
    rw [opE, opE]
    rw [List.map_congr_left (l := f.toList) (g := fun x => st (ev e' x)) fun x hx => by rw [he x (by simp [Op.operands]; exact .inl (by simpa using hx))],
      List.map_congr_left (l := c.toList) (g := fun x => st (ev e' x)) fun x hx => by rw [he x (by simp [Op.operands]; exact .inr (by simpa using hx))]]
  | makeSlice t x y =>
    rw [opE, opE, ← he x (by simp [Op.operands]), ← he y (by simp [Op.operands])]
    unfold makeE
    rw [nver_local hd]
  | slice t x lo hi mx =>
    rw [opE, opE, ← he x (by simp [Op.operands])]
    have e1 : (lo.map fun x => st (ev e x)) = lo.map fun x => st (ev e' x) := by cases lo with | none => rfl | some l => simp [he l (by simp [Op.operands])]
    have e2 : (hi.map fun x => st (ev e x)) = hi.map fun x => st (ev e' x) := by cases hi with | none => rfl | some l => simp [he l (by simp [Op.operands])]
    have e3 : (mx.map fun x => st (ev e x)) = mx.map fun x => st (ev e' x) := by cases mx with | none => rfl | some l => simp [he l (by simp [Op.operands])]
    rw [e1, e2, e3]
    have h1 := hs x (by simp [Op.operands])
    cases hq : st (ev e x) <;> simp only [sliceE]
    rw [hq] at h1
    rw [h1 _ (by simp [AV.refs])]
  | fieldAddr t x k =>
    rw [opE, opE, ← he x (by simp [Op.operands])]
    have h1 := hs x (by simp [Op.operands])
    cases hq : st (ev e x) <;> simp only [fieldE]
    rw [hq] at h1
    rw [h1 _ (by simp [AV.refs])]
  | field t x k => rw [opE, opE, ← he x (by simp [Op.operands])]
  | indexAddr t x i =>
    rw [opE, opE, ← he x (by simp [Op.operands]), ← he i (by simp [Op.operands])]
    have h1 := hs x (by simp [Op.operands])
    cases hq : st (ev e x) <;> simp only [indexE] <;> (rw [hq] at h1; rw [h1 _ (by simp [AV.refs])])
  | index t x i => rw [opE, opE, ← he x (by simp [Op.operands]), ← he i (by simp [Op.operands])]
  | extract x k => rw [opE, opE, ← he x (by simp [Op.operands])]
  | call c =>
    obtain ⟨callee, args, ts⟩ := c
    cases callee with
    | value f => rfl
    | invoke r n => rfl
    | builtin b =>
      have hl : (args.toList.map fun x => st (ev e x)) = args.toList.map fun x => st (ev e' x) :=
        List.map_congr_left fun x hx => by rw [he x (by simp [Op.operands, Call.operands]; simpa using hx)]
      have hr : ∀ y ∈ args.toList.map (fun x => st (ev e x)), eqOn y.refs m m' := by
        intro y hy
        obtain ⟨x, hx', rfl⟩ := List.mem_map.1 hy
        exact hs x (by simp [Op.operands, Call.operands]; simpa using hx')
      simp only [opE]
      rw [← hl]
      generalize args.toList.map (fun x => st (ev e x)) = xs at hr
      unfold builtinE
      split
      · rename_i t x he1
        have h1 := hr x (by simp)
        unfold lenB mlenE
        have : lenOK m x = lenOK m' x := by
          cases x <;> simp only [lenOK]
          rw [h1 _ (by simp [AV.refs])]
        rw [this, ments_local h1]
      · rename_i t t' x y he1
        have h1 := hr x (by simp)
        have h2 := hr y (by simp)
        unfold appE
        rw [elemsV_local h2, nver_local hd]
        cases x <;> simp only
        rw [h1 _ (by simp [AV.refs])]
      · rfl
      · rfl
      · rfl
      · rename_i t x he1
        have h1 := hr x (by simp)
        unfold clearE
        cases x <;> simp only
        rw [h1 _ (by simp [AV.refs])]
      · rename_i t t' x y he1
        have h1 := hr x (by simp)
        have h2 := hr y (by simp)
        unfold copyE
        rw [elems_local h2]
        cases x <;> simp only
        rw [h1 _ (by simp [AV.refs])]
      · rfl
  | _ => rfl

end Go.Abs
end

section
/- The value layer, part 43 (between 32 and 17): a call that puts two elements in the place of one of an own list, and gives the list (in its block or in a new one). -/
namespace Go.Abs

/-- The cells behind such a call. -/
def movedC (c d : Array Value) (base hb k i : Nat) : Value := if i < k then c.getD (base + i) undef else if i < k + 2 then d.getD (hb + (i - k)) undef else c.getD (base + (i - 1)) undef
/-- The contract: it moves cells, whatever they are. -/
def CallMv (P : Program) (f : FuncId) (k n : Nat) : Prop :=
  Enter P f ∧ ∀ (w : World) (g base cap : Nat) (c : Array Value) (el : TypeId) (h hb hcap : Nat) (d : Array Value) (el' : TypeId),
    g ≠ h → w.heap[g]? = some (.cells c el (0, 0)) → base + cap = c.size → n ≤ cap → (∀ j, j < c.size → (c.getD j undef).oneCell' = true) →
    w.heap[h]? = some (.cells d el' (0, 0)) → hb + hcap = d.size → 2 ≤ hcap → (∀ j, j < d.size → (d.getD j undef).oneCell' = true) →
    Calls P f #[.slice (some ⟨g, base, none⟩) n cap, .int .i64 (k : Int), .int .i64 ((k : Int) + 1), .slice (some ⟨h, hb, none⟩) 2 hcap] w fun e w' =>
      ∃ q base' cap' C elq, e = .returned (.slice (some ⟨q, base', none⟩) (n + 1) cap') ∧ (q = g ∨ w.heap.size ≤ q) ∧ w'.heap[q]? = some (.cells C elq (0, 0)) ∧ base' + cap' = C.size ∧ n + 1 ≤ cap' ∧
        (∀ j, j < C.size → (C.getD j undef).oneCell' = true) ∧ (∀ i, i < n + 1 → C.getD (base' + i) undef = movedC c d base hb k i) ∧
        ((w'.os = w.os ∧ w.drawn ≤ w'.drawn) ∧ w'.tape = w.tape ∧ w'.output = w.output) ∧ w.heap.size ≤ w'.heap.size ∧ ∀ b, b < w.heap.size → b ≠ g → w'.heap[b]? = w.heap[b]?
/-- The elements behind such a call. -/
def movedE (l l2 : List AV) (k : Nat) : List AV := l.take k ++ (l2 ++ l.drop (k + 1))
theorem movedE_len {l l2 : List AV} {k : Nat} (hk : k < l.length) (h2 : l2.length = 2) : (movedE l l2 k).length = l.length + 1 := by
  unfold movedE
  simp only [List.length_append, List.length_take, List.length_drop, h2]; omega
theorem movedE_get {l l2 : List AV} {k : Nat} (hk : k < l.length) (h2 : l2.length = 2) {i : Nat} (hi : i < l.length + 1) :
    (movedE l l2 k).getD i .junk = if i < k then l.getD i .junk else if i < k + 2 then l2.getD (i - k) .junk else l.getD (i - 1) .junk := by
  have e1 : (l.take k).length = k := by rw [List.length_take]; omega
  unfold movedE
  simp only [List.getD_eq_getElem?_getD]
  by_cases a1 : i < k
  · rw [if_pos a1, List.getElem?_append_left (by omega), List.getElem?_take, if_pos a1]
  · rw [if_neg a1, List.getElem?_append_right (by omega), e1]
    by_cases a2 : i < k + 2
    · rw [if_pos a2, List.getElem?_append_left (by omega)]
    · rw [if_neg a2, List.getElem?_append_right (by omega), h2, List.getElem?_drop]
      congr 2
      omega

section
variable {P : Program} {T : TT} {B : Base} {w : World} {a : Act} {s : St}
/-- The call. -/
theorem mv_wp {o : Oper} (hrel : Rel B w a s) {f : Operand} {args : Array Operand} {ts : Array TypeId} (ho : o.op = .call ⟨.value f, args, ts⟩) (hf : firms s.env (firm o.op)) {gid : FuncId} {id ver n k id2 ver2 : Nat}
    (htgt : tgt (st (ev s.env f)) (nrmL T ts.toList (args.toList.map fun x => st (ev s.env x))) = some (gid, [.sl id ver 0 n, .raw (.int .i64 (k : Int)), .raw (.int .i64 ((k : Int) + 1)), .sl id2 ver2 0 2]))
    (hc : CallMv P gid k n) {b b2 : Box} (hb : find s.mem id = some b) (hv : b.ver = ver) (hz : b.sz = 1) (hn : n = b.els.length) (hb2 : find s.mem id2 = some b2) (hv2 : b2.ver = ver2) (hz2 : b2.sz = 1) (h2 : b2.els.length = 2) (hne : id ≠ id2) (hk : k < n) (hbig : n ≤ 1000)
    (hd : ∀ k, o.dst = some k → k < B.N) {next : Act → World → Prop} {Q : Exit → Act → World → Prop}
    (hkk : ∀ a' w', Rel B w' a' (s.app o.dst (.sl id (b.ver + 1) 0 (n + 1)) [(id, some ⟨1, movedE b.els b2.els k, b.ver + 1, b.var || b2.var⟩)]) → next a' w') : o.wp P a w next Q := by
  obtain ⟨μ, h⟩ := hrel
  refine call_wp h ho hf htgt hc.1 fun vs hsz hall => ?_
  obtain ⟨l, hm, hlv, hls, hh⟩ := h.inv.box id b hb
  obtain ⟨l2, hm2, hlv2, hls2, hh2⟩ := h.inv.box id2 b2 hb2
  have r0 : Rep w (Yof B.X μ) μ (.sl id ver 0 n) (vs.getD 0 undef) := hall 0 (by simp)
  have r1 : Rep w (Yof B.X μ) μ (.raw (.int .i64 (k : Int))) (vs.getD 1 undef) := hall 1 (by simp)
  have r2 : Rep w (Yof B.X μ) μ (.raw (.int .i64 ((k : Int) + 1))) (vs.getD 2 undef) := hall 2 (by simp)
  have r3 : Rep w (Yof B.X μ) μ (.sl id2 ver2 0 2) (vs.getD 3 undef) := hall 3 (by simp)
  obtain ⟨v0, v1, v2, v3, rfl⟩ : ∃ v0 v1 v2 v3, vs = #[v0, v1, v2, v3] := by
    cases vs with
    | mk l =>
      match l, hsz with
      | [x, y, z, u], _ => exact ⟨x, y, z, u, rfl⟩
  replace r0 : Rep w (Yof B.X μ) μ (.sl id ver 0 n) v0 := r0
  replace r1 : Rep w (Yof B.X μ) μ (.raw (.int .i64 (k : Int))) v1 := r1
  replace r2 : Rep w (Yof B.X μ) μ (.raw (.int .i64 ((k : Int) + 1))) v2 := r2
  replace r3 : Rep w (Yof B.X μ) μ (.sl id2 ver2 0 2) v3 := r3
  obtain ⟨rfl, _⟩ := r1.one
  obtain ⟨rfl, _⟩ := r2.one
  obtain ⟨g, base, N, cap, eb, ev0, hcap, hfit⟩ : ∃ g base N cap, l.blk = some (g, N) ∧ v0 = .slice (some ⟨g, base, none⟩) n cap ∧ n ≤ cap ∧ (base = l.base ∧ base + cap = N) := by
    cases r0 with
    | slOld hm' hv' => rw [hm] at hm'; cases hm'; omega
    | slNil hm' hv' hnf => omega
    | sl hm' hv' hbk hc' hfit' hz' =>
      rename_i cap loc g N
      rw [hm] at hm'; cases hm'
      rw [hls, hz] at hfit'
      exact ⟨g, l.base + 0 * l.sz, N, cap, hbk, by simp, hc', by simp, by simp; omega⟩
  obtain ⟨g2, base2, N2, cap2, eb2, ev2, hcap2, hfit2⟩ : ∃ g base N cap, l2.blk = some (g, N) ∧ v3 = .slice (some ⟨g, base, none⟩) 2 cap ∧ 2 ≤ cap ∧ (base = l2.base ∧ base + cap = N) := by
    cases r3 with
    | slOld hm' hv' => rw [hm2] at hm'; cases hm'; omega
    | sl hm' hv' hbk hc' hfit' hz' =>
      rename_i cap loc g N
      rw [hm2] at hm'; cases hm'
      rw [hls2, hz2] at hfit'
      exact ⟨g, l2.base + 0 * l2.sz, N, cap, hbk, by simp, hc', by simp, by simp; omega⟩
  subst ev0 ev2
  obtain ⟨rfl, hfit⟩ := hfit
  obtain ⟨rfl, hfit2⟩ := hfit2
  unfold Holds at hh hh2
  rw [eb] at hh
  rw [eb2] at hh2
  obtain ⟨hbg, hcell, _⟩ := hh
  obtain ⟨_, hcell2, _⟩ := hh2
  obtain ⟨c, el, hw, hcs, hnn, h1, hr⟩ := hcell (by rw [hz]; decide)
  obtain ⟨d, el2, hw2, hds, hnn2, h12, hr2⟩ := hcell2 (by rw [hz2]; decide)
  have hgne : g ≠ g2 := fun e => hne (h.inv.apart id id2 l l2 g N N2 hm hm2 eb (by rw [eb2, e]))
  have := hc.2 w g l.base cap c el g2 l2.base cap2 d el2 hgne hw (by omega) hcap (fun j hj => h1 j (by omega)) hw2 (by omega) hcap2 (fun j hj => h12 j (by omega))
  refine Calls.mono this ?_
  rintro e w' ⟨q, base', cap', C, elq, rfl, hq, hwq, hfq, hcq, hC1, hCm, hos, hsz', hold⟩
  refine ⟨_, rfl, hkk _ _ ?_⟩
  have hnver : nver s.mem id = b.ver + 1 := by simp [nver, hb]
  have hlen := movedE_len (l := b.els) (l2 := b2.els) (k := k) (by omega) h2
  have hnewblk : ∀ g' n', (⟨b.ver + 1, 1, base', some (q, C.size)⟩ : Loc).blk = some (g', n') → (∃ l1 n0, μ id = some l1 ∧ l1.blk = some (g', n0)) ∨ w.heap.size ≤ g' := by
    intro g' n' e
    simp only [Option.some.injEq, Prod.mk.injEq] at e
    obtain ⟨rfl, _⟩ := e
    rcases hq with rfl | hq
    · exact .inl ⟨_, N, hm, eb⟩
    · exact .inr hq
  have hkeep : ∀ x, ¬ Yof B.X μ x → x < w.heap.size → ¬ Yof B.X (μ.upd id ⟨b.ver + 1, 1, base', some (q, C.size)⟩) x ∧ w'.heap[x]? = w.heap[x]? := by
    intro x hy hx
    refine ⟨fun hy' => ?_, hold x hx fun e => hy (.inr ⟨id, l, N, hm, by rw [eb, e]⟩)⟩
    rcases hy' with hx' | hb'
    · exact hy (.inl hx')
    · rcases blks_upd hb' with ⟨n', hl'⟩ | ⟨i', l', n', _, hm', hb''⟩
      · simp only [Option.some.injEq, Prod.mk.injEq] at hl'
        rcases hq with rfl | hq
        · exact hy (.inr ⟨id, l, N, hm, by rw [eb, hl'.1]⟩)
        · omega
      · exact hy (.inr ⟨i', l', n', hm', hb''⟩)
  have hlat := later_upd h.inv id (⟨b.ver + 1, 1, base', some (q, C.size)⟩ : Loc) (by rw [hnver]; exact Nat.le_refl _)
  have hrb := RelM.rebox (w' := w') h id ⟨1, movedE b.els b2.els k, b.ver + 1, b.var || b2.var⟩ ⟨b.ver + 1, 1, base', some (q, C.size)⟩ rfl rfl hlat (.inr (Nat.succ_pos _)) hos hsz'
    (fun g' hg' hno => hold g' hg' fun e => hno l N hm (by rw [eb, e])) hnewblk ?_
  · refine ⟨_, RelM.app (up := [(id, some ⟨1, movedE b.els b2.els k, b.ver + 1, b.var || b2.var⟩)]) hrb hd ?_⟩
    have := Rep.sl (w := w') (Y := Yof B.X (μ.upd id ⟨b.ver + 1, 1, base', some (q, C.size)⟩)) (μ := μ.upd id ⟨b.ver + 1, 1, base', some (q, C.size)⟩)
      (id := id) (ver := b.ver + 1) (off := 0) (len := n + 1) (cap := cap') (loc := ⟨b.ver + 1, 1, base', some (q, C.size)⟩) (by simp [Mu.upd]) rfl rfl hcq (by simp; omega) Nat.one_ne_zero
    simpa using this
  · refine ⟨by dsimp only; rw [hlen]; simp only [big]; omega, fun _ => ⟨C, elq, hwq, rfl, by dsimp only; rw [hlen]; omega, hC1, ?_⟩, fun h0 => by cases h0⟩
    intro i hi
    dsimp only at hi ⊢
    rw [hlen] at hi
    have hcm := hCm i (by omega)
    unfold movedC at hcm
    rw [movedE_get (by omega) h2 hi]
    by_cases a1 : i < k
    · rw [if_pos a1] at hcm ⊢
      have hrk := hr i (by omega)
      rw [hz] at hrk
      refine ⟨hrk.1, ?_⟩
      have := hrk.2.upv (v2 := b.var || b2.var) (fun e => by simp [e]) hkeep hlat
      rw [elemVal_congr hrk.1 (c' := C) (o' := base' + i * 1) (by omega) (by omega) (fun j hj => ?_)] at this
      · exact this
      · have : j = 0 := by omega
        subst this
        simp only [Nat.mul_one, Nat.add_zero]
        exact hcm.symm
    · rw [if_neg a1] at hcm ⊢
      by_cases a2 : i < k + 2
      · rw [if_pos a2] at hcm ⊢
        have hrk := hr2 (i - k) (by omega)
        rw [hz2] at hrk
        refine ⟨hrk.1, ?_⟩
        have := hrk.2.upv (v2 := b.var || b2.var) (fun e => by simp [e]) hkeep hlat
        rw [elemVal_congr hrk.1 (c' := C) (o' := base' + i * 1) (by omega) (by omega) (fun j hj => ?_)] at this
        · exact this
        · have : j = 0 := by omega
          subst this
          simp only [Nat.mul_one, Nat.add_zero]
          exact hcm.symm
      · rw [if_neg a2] at hcm ⊢
        have hrk := hr (i - 1) (by omega)
        rw [hz] at hrk
        refine ⟨hrk.1, ?_⟩
        have := hrk.2.upv (v2 := b.var || b2.var) (fun e => by simp [e]) hkeep hlat
        rw [elemVal_congr hrk.1 (c' := C) (o' := base' + i * 1) (by omega) (by omega) (fun j hj => ?_)] at this
        · exact this
        · have : j = 0 := by omega
          subst this
          simp only [Nat.mul_one, Nat.add_zero]
          exact hcm.symm
end
end Go.Abs
end

section
/- The value layer, part 17: a region whose order is drawn. -/
namespace Go.Abs

/-! ### a step hangs on what it looks at alone -/
def tmpsOf (op : Op) : List Nat := op.operands.toList.filterMap fun | .tmp t => some t | _ => none
def slotsOf (o : AOper) : List Nat := tmpsOf o.op ++ (match o.guard with | some (g, _) => [g] | none => [])

theorem ev_local {e e' : List (Nat × AV)} {op : Op} (h : ∀ t ∈ tmpsOf op, get e t = get e' t) : ∀ x ∈ op.operands.toList, ev e x = ev e' x := by
  intro x hx
  cases x with
  | tmp t => exact h t (List.mem_filterMap.2 ⟨.tmp t, hx, rfl⟩)
  | _ => rfl

theorem firms_local {e e' : List (Nat × AV)} : ∀ {l : List Operand}, (∀ x ∈ l, ev e x = ev e' x) → firms e l = firms e' l
  | [], _ => rfl
  | x :: l, h => by simp only [firms]; rw [h x (by simp), firms_local fun y hy => h y (by simp [hy])]

theorem firm_sub (op : Op) : ∀ x ∈ firm op, x ∈ op.operands.toList := by
  intro x hx
  unfold firm at hx
  split at hx
  · simp [Op.operands] at hx ⊢; exact .inl hx
  · simpa [Op.operands] using hx
  · simpa [Op.operands] using hx
  · exact hx

mutual
theorem snap_local {m m' : List (Nat × Option Box)} : ∀ (a : AV), eqOn a.refs m m' → snap m a = snap m' a
  | .seq _ _ _, _ => by simp [snap]
  | .sl id _ _ _, h => by simp only [snap]; rw [h id (by simp [AV.refs])]
  | .pt id _ _ _, h => by simp only [snap]; rw [h id (by simp [AV.refs])]
  | .agg l, h => by simp only [snap]; rw [snapL_local l (by simpa [AV.refs] using h)]
  | .tup l, h => by simp only [snap]; rw [snapL_local l (by simpa [AV.refs] using h)]
  | .fn f a b, h => by
    simp only [snap]
    rw [snapL_local a (fun id hid => h id (by simp [AV.refs, hid])), snapL_local b (fun id hid => h id (by simp [AV.refs, hid]))]
  | .maybe g a, h => by simp only [snap]; rw [snap_local a (by simpa [AV.refs] using h)]
  | .raw _, _ => by simp [snap]
  | .ipt _ _, _ => by simp [snap]
  | .mp id _, h => by simp only [snap]; rw [h id (by simp [AV.refs])]
  | .map _, _ => by simp [snap]
  | .junk, _ => by simp [snap]
theorem snapL_local {m m' : List (Nat × Option Box)} : ∀ (l : List AV), eqOn (AV.refsL l) m m' → snapL m l = snapL m' l
  | [], _ => by simp [snapL]
  | a :: l, h => by
    simp only [snapL]
    rw [snap_local a (fun id hid => h id (by simp [AV.refsL, hid])), snapL_local l (fun id hid => h id (by simp [AV.refsL, hid]))]
end

mutual
theorem snapOK_local {m m' : List (Nat × Option Box)} : ∀ (a : AV), eqOn a.refs m m' → snapOK m a = snapOK m' a
  | .seq _ _ _, _ => by simp [snapOK]
  | .sl id _ _ _, h => by simp only [snapOK]; rw [h id (by simp [AV.refs])]
  | .pt id _ _ _, h => by simp only [snapOK]; rw [h id (by simp [AV.refs])]
  | .agg l, h => by simp only [snapOK]; rw [snapOKL_local l (by simpa [AV.refs] using h)]
  | .tup l, h => by simp only [snapOK]; rw [snapOKL_local l (by simpa [AV.refs] using h)]
  | .fn f a b, h => by
    simp only [snapOK]
    rw [snapOKL_local a (fun id hid => h id (by simp [AV.refs, hid])), snapOKL_local b (fun id hid => h id (by simp [AV.refs, hid]))]
  | .maybe g a, h => by simp only [snapOK]; rw [snapOK_local a (by simpa [AV.refs] using h)]
  | .raw _, _ => by simp [snapOK]
  | .ipt _ _, _ => by simp [snapOK]
  | .mp id _, h => by simp only [snapOK]; rw [h id (by simp [AV.refs])]
  | .map _, _ => by simp [snapOK]
  | .junk, _ => by simp [snapOK]
theorem snapOKL_local {m m' : List (Nat × Option Box)} : ∀ (l : List AV), eqOn (AV.refsL l) m m' → snapOKL m l = snapOKL m' l
  | [], _ => by simp [snapOKL]
  | a :: l, h => by
    simp only [snapOKL]
    rw [snapOK_local a (fun id hid => h id (by simp [AV.refsL, hid])), snapOKL_local l (fun id hid => h id (by simp [AV.refsL, hid]))]
end

theorem refsL_append : ∀ (a b : List AV), AV.refsL (a ++ b) = AV.refsL a ++ AV.refsL b
  | [], b => by simp [AV.refsL]
  | x :: a, b => by simp [AV.refsL, refsL_append a b]

theorem nrmL_refs {T : TT} : ∀ {ts : List Nat} {xs : List AV}, AV.refsL (nrmL T ts xs) = AV.refsL xs
  | [], xs => by simp [nrmL]
  | t :: ts, [] => by simp [nrmL]
  | t :: ts, x :: xs => by simp [nrmL, AV.refsL, nrm_refs, nrmL_refs]

theorem mem_refsL_iff {id : Nat} : ∀ {l : List AV}, id ∈ AV.refsL l ↔ ∃ a ∈ l, id ∈ a.refs
  | [] => by simp [AV.refsL]
  | a :: l => by simp [AV.refsL, mem_refsL_iff]

/-- The boxes that an operation can look into. -/
def idsOf (o : AOper) (e : List (Nat × AV)) : List Nat := opRefs e o.op (o.dst.getD 0)

theorem callOK_local {P : Program} {T : TT} {e e' : List (Nat × AV)} {m m' : List (Nat × Option Box)} {f : Operand} {args : Array Operand} {ts : Array TypeId} {d : Nat} {r : AV}
    (he : ∀ x ∈ (Op.call ⟨.value f, args, ts⟩).operands.toList, ev e x = ev e' x) (hm : eqOn (opRefs e (.call ⟨.value f, args, ts⟩) d) m m') (h : CallOK P T e m f ts.toList args.toList r) :
    CallOK P T e' m' f ts.toList args.toList r := by
  have hf : ev e f = ev e' f := he f (by simp [Op.operands, Call.operands])
  have ha : (args.toList.map fun x => st (ev e x)) = args.toList.map fun x => st (ev e' x) := List.map_congr_left fun x hx => by rw [he x (by simp [Op.operands, Call.operands]; exact .inr (by simpa using hx))]
  unfold CallOK at *
  rw [← hf, ← ha]
  split at h
  · rename_i g as htgt
    have hrefs : eqOn (AV.refsL as) m m' := by
      intro id hid
      refine hm id ?_
      unfold tgt at htgt
      split at htgt
      · rename_i f' p q hfe
        simp only [Option.some.injEq, Prod.mk.injEq] at htgt
        obtain ⟨rfl, rfl⟩ := htgt
        simp only [refsL_append, nrmL_refs, List.mem_append] at hid
        simp only [opRefs, isMv, Bool.false_eq_true, if_false, List.mem_cons, List.mem_flatMap]
        right
        rcases hid with (hid | hid) | hid
        · refine ⟨f, by simp [Op.operands, Call.operands], ?_⟩
          rw [← st_refs, hfe]
          simp [AV.refs, hid]
        · obtain ⟨a, ha', hid'⟩ := mem_refsL_iff.1 hid
          obtain ⟨x, hx, rfl⟩ := List.mem_map.1 ha'
          refine ⟨x, by simp [Op.operands, Call.operands]; exact .inr (by simpa using hx), ?_⟩
          rw [st_refs] at hid'
          exact hid'
        · refine ⟨f, by simp [Op.operands, Call.operands], ?_⟩
          rw [← st_refs, hfe]
          simp [AV.refs, hid]
      · cases htgt
    rw [← snapL_local as hrefs, ← snapOKL_local as hrefs]
    exact h
  · exact h.elim

theorem stepOK_local {P : Program} {T : TT} {O : List Nat} {o : AOper} {e e' : List (Nat × AV)} {m m' : List (Nat × Option Box)} {v : AV} {up : List (Nat × Option Box)}
    (he : ∀ t ∈ tmpsOf o.op, get e t = get e' t) (hm : eqOn (idsOf o e) m m') (h : StepOK P T O o e m v up) : StepOK P T O o e' m' v up := by
  obtain ⟨hf, h⟩ := h
  have hev := ev_local he
  have hl := opE_local (T := T) (O := O) (d := o.dst.getD 0) (ty := o.ty) hev hm
  refine ⟨by rw [← firms_local fun x hx => hev x (firm_sub _ x hx)]; exact hf, ?_⟩
  obtain ⟨dst, op, ty, guard⟩ := o
  simp only at hl h hev ⊢
  cases op with
  | call c =>
    obtain ⟨callee, args, ts⟩ := c
    cases callee with
    | value f => exact ⟨callOK_local hev hm h.1, h.2⟩
    | _ => simp only at h ⊢; rw [← hl]; exact h
  | _ => simp only at h ⊢; rw [← hl]; exact h

theorem steps_local {P : Program} {T : TT} {O : List Nat} {o : AOper} {e e' : List (Nat × AV)} {m m' : List (Nat × Option Box)} {v : AV} {up : List (Nat × Option Box)}
    (he : ∀ t ∈ slotsOf o, get e t = get e' t) (hm : eqOn (idsOf o e) m m') (h : Steps P T O o e m v up) : Steps P T O o e' m' v up := by
  have he' : ∀ t ∈ tmpsOf o.op, get e t = get e' t := fun t ht => he t (by simp [slotsOf, ht])
  unfold Steps at *
  cases hg : o.guard with
  | none =>
    rw [hg] at h
    exact stepOK_local he' hm h
  | some gw =>
    obtain ⟨g, want⟩ := gw
    rw [hg] at h
    simp only at h ⊢
    rw [← he g (by simp [slotsOf, hg])]
    cases hc : guardOf (get e g) want with
    | none => rw [hc] at h; exact h.elim
    | some c =>
      rw [hc] at h
      obtain ⟨x, hv, hs, hu⟩ := h
      exact ⟨x, hv, fun hc => stepOK_local he' hm (hs hc), hu⟩

/-! ### states out of steps -/
section
variable (dst : Nat → Option Nat) (V : Nat → AV) (U : Nat → List (Nat × Option Box)) (s : St) (n : Nat)

/-- The state behind the steps with these numbers. -/
def stOf (D : Nat → Bool) : St := ((List.range n).filter D).foldl (fun s i => s.app (dst i) (V i) (U i)) s

theorem get_foldl (t : Nat) : ∀ (l : List Nat) (s : St), get (l.foldl (fun s i => s.app (dst i) (V i) (U i)) s).env t =
    match (l.filter fun i => decide (dst i = some t)).getLast? with | some i => V i | none => get s.env t
  | [], s => rfl
  | i :: l, s => by
    simp only [List.foldl_cons]
    rw [get_foldl t l]
    by_cases h : dst i = some t
    · rw [List.filter_cons_of_pos (by simp [h])]
      cases hl : (l.filter fun i => decide (dst i = some t)) with
      | nil => simp [St.app, h, get]
      | cons x xs =>
        cases hq : (x :: xs).getLast? with
        | none => simp at hq
        | some y => simp [hq]
    · rw [List.filter_cons_of_neg (by simp [h])]
      cases hl : (l.filter fun i => decide (dst i = some t)) with
      | nil =>
        simp only [List.getLast?_nil, St.app]
        cases hd : dst i with
        | none => rfl
        | some d =>
          have : t ≠ d := fun e => h (by rw [hd, e])
          simp [get, this]
      | cons x xs =>
        cases hq : (x :: xs).getLast? with
        | none => simp at hq
        | some y => rfl

theorem find_append : ∀ (u m : List (Nat × Option Box)) (id : Nat), find (u ++ m) id = if id ∈ u.map (·.1) then find u id else find m id
  | [], m, id => by simp
  | (k, b) :: u, m, id => by
    simp only [List.cons_append, find, List.map_cons, List.mem_cons]
    by_cases h : id = k
    · simp [h]
    · simp only [h, if_false, false_or]
      exact find_append u m id

theorem find_foldl (id : Nat) : ∀ (l : List Nat) (s : St), find (l.foldl (fun s i => s.app (dst i) (V i) (U i)) s).mem id =
    match (l.filter fun i => decide (id ∈ (U i).map (·.1))).getLast? with | some i => find (U i) id | none => find s.mem id
  | [], s => rfl
  | i :: l, s => by
    simp only [List.foldl_cons]
    rw [find_foldl id l]
    by_cases h : id ∈ (U i).map (·.1)
    · rw [List.filter_cons_of_pos (by simpa using h)]
      cases hl : (l.filter fun i => decide (id ∈ (U i).map (·.1))) with
      | nil =>
        simp only [List.getLast?_nil, List.getLast?_singleton, St.app]
        rw [find_append, if_pos h]
      | cons x xs =>
        cases hq : (x :: xs).getLast? with
        | none => simp at hq
        | some y => simp [hq]
    · rw [List.filter_cons_of_neg (by simpa using h)]
      cases hl : (l.filter fun i => decide (id ∈ (U i).map (·.1))) with
      | nil =>
        simp only [List.getLast?_nil, St.app]
        rw [find_append, if_neg h]
      | cons x xs =>
        cases hq : (x :: xs).getLast? with
        | none => simp at hq
        | some y => rfl

theorem get_stOf {D D' : Nat → Bool} (t : Nat) (h : ∀ i, i < n → dst i = some t → D i = D' i) : get (stOf dst V U s n D).env t = get (stOf dst V U s n D').env t := by
  unfold stOf
  rw [get_foldl, get_foldl, List.filter_filter, List.filter_filter]
  have : (List.range n).filter (fun i => decide (dst i = some t) && D i) = (List.range n).filter fun i => decide (dst i = some t) && D' i := by
    apply List.filter_congr
    intro i hi
    by_cases hd : dst i = some t
    · simp [hd, h i (by simpa using hi) hd]
    · simp [hd]
  rw [this]

theorem find_stOf {D D' : Nat → Bool} (id : Nat) (h : ∀ i, i < n → id ∈ (U i).map (·.1) → D i = D' i) : find (stOf dst V U s n D).mem id = find (stOf dst V U s n D').mem id := by
  unfold stOf
  rw [find_foldl, find_foldl, List.filter_filter, List.filter_filter]
  have : (List.range n).filter (fun i => decide (id ∈ (U i).map (·.1)) && D i) = (List.range n).filter fun i => decide (id ∈ (U i).map (·.1)) && D' i := by
    apply List.filter_congr
    intro i hi
    by_cases hd : id ∈ (U i).map (·.1)
    · simp only [hd, decide_true, Bool.true_and]; exact h i (by simpa using hi) hd
    · simp only [hd, decide_false, Bool.false_and]
  rw [this]

/-- The last of a list that is filtered, if it is the greatest. -/
theorem getLast_filter_range {p : Nat → Bool} {i : Nat} (hi : i < n) (hp : p i = true) (hl : ∀ j, j < n → i < j → p j = false) : ((List.range n).filter p).getLast? = some i := by
  have e : List.range n = List.range (i + 1) ++ (List.range (n - (i + 1))).map (i + 1 + ·) := by
    rw [← List.range_add]
    congr 1
    omega
  rw [e, List.filter_append]
  have e2 : ((List.range (n - (i + 1))).map (i + 1 + ·)).filter p = [] := by
    rw [List.filter_eq_nil_iff]
    intro j hj
    obtain ⟨k, hk, rfl⟩ := List.mem_map.1 hj
    simp only [List.mem_range] at hk
    rw [hl _ (by omega) (by omega)]
    simp
  rw [e2, List.append_nil, List.range_succ, List.filter_append]
  simp [hp]

theorem get_stOf_last {D : Nat → Bool} {i t : Nat} (hi : i < n) (hD : D i = true) (hd : dst i = some t) (hl : ∀ j, j < n → i < j → dst j = some t → D j = false) : get (stOf dst V U s n D).env t = V i := by
  unfold stOf
  rw [get_foldl, List.filter_filter, getLast_filter_range n hi (by simp [hd, hD]) (fun j hj hij => by
    by_cases hdj : dst j = some t
    · simp [hl j hj hij hdj]
    · simp [hdj])]

theorem find_stOf_last {D : Nat → Bool} {i id : Nat} (hi : i < n) (hD : D i = true) (hd : id ∈ (U i).map (·.1)) (hl : ∀ j, j < n → i < j → id ∈ (U j).map (·.1) → D j = false) :
    find (stOf dst V U s n D).mem id = find (U i) id := by
  unfold stOf
  rw [find_foldl, List.filter_filter, getLast_filter_range n hi (by simp only [hd, decide_true, hD, Bool.and_self]) (fun j hj hij => by
    by_cases hdj : id ∈ (U j).map (·.1)
    · simp only [hdj, decide_true, Bool.true_and]; exact hl j hj hij hdj
    · simp only [hdj, decide_false, Bool.false_and])]
end

theorem Rel.same {B : Base} {w : World} {a : Act} {s s' : St} (h : Rel B w a s) (he : ∀ t, get s.env t = get s'.env t) (hm : ∀ id, find s.mem id = find s'.mem id) : Rel B w a s' := by
  obtain ⟨μ, h⟩ := h
  refine ⟨μ, h.defers, h.size, ⟨fun id hid => h.inv.no id (by rw [hm]; exact hid), fun id b hb => h.inv.box id b (by rw [hm]; exact hb), h.inv.apart, h.inv.out⟩, fun t => ?_, h.ext, h.mine, h.base, h.kept⟩
  rw [← he]
  exact h.env t

/-! ### calls to which boxes are lent, in whatever order -/
/-- A call that puts two elements in the place of one of an own list. -/
def MovesAt (P : Program) (m : List (Nat × Option Box)) (g : FuncId) (as : List AV) (ex : List Nat) (v : AV) (up : List (Nat × Option Box)) : Prop :=
  ∃ (id ver n k id2 ver2 : Nat) (b b2 : Box), as = [.sl id ver 0 n, .raw (.int .i64 (k : Int)), .raw (.int .i64 ((k : Int) + 1)), .sl id2 ver2 0 2] ∧ ex = [id, id2] ∧ CallMv P g k n ∧
    find m id = some b ∧ b.ver = ver ∧ b.sz = 1 ∧ n = b.els.length ∧ find m id2 = some b2 ∧ b2.ver = ver2 ∧ b2.sz = 1 ∧ b2.els.length = 2 ∧ id ≠ id2 ∧ k < n ∧ n ≤ 1000 ∧
    v = .sl id (b.ver + 1) 0 (n + 1) ∧ up = [(id, some ⟨1, movedE b.els b2.els k, b.ver + 1, b.var || b2.var⟩)]
theorem movesAt_local {P : Program} {m m' : List (Nat × Option Box)} {g : FuncId} {as : List AV} {ex : List Nat} {v : AV} {up : List (Nat × Option Box)} (hm : eqOn ex m m') (h : MovesAt P m g as ex v up) : MovesAt P m' g as ex v up := by
  obtain ⟨id, ver, n, k, id2, ver2, b, b2, h1, h2, h3, h4, h5, h6, h7, h8, hr⟩ := h
  subst h2
  refine ⟨id, ver, n, k, id2, ver2, b, b2, h1, rfl, h3, ?_, h5, h6, h7, ?_, hr⟩
  · rw [← hm id (by simp)]; exact h4
  · rw [← hm id2 (by simp)]; exact h8
/-- A call to which boxes are lent: which of them it looks at and changes. -/
def LentStep (P : Program) (T : TT) (o : AOper) (e : List (Nat × AV)) (m : List (Nat × Option Box)) (ex : List Nat) (v : AV) (up : List (Nat × Option Box)) : Prop :=
  o.guard = none ∧ firms e (firm o.op) ∧ ∃ f args ts, o.op = .call ⟨.value f, args, ts⟩ ∧ ∃ g as, tgt (st (ev e f)) (nrmL T ts.toList (args.toList.map fun x => st (ev e x))) = some (g, as) ∧
    ((∃ (σ : Names) (r : AV) (m' : List (Nat × Option Box)), namesOK m σ ∧ σ.map (·.1) = ex ∧ CallB P g (renL (upN σ) as) (lendM σ m σ) r m' ∧ v = renA (dnN σ) r ∧ up = backM σ m' σ) ∨
     (∃ (d sz : Nat) (els : List AV), o.dst = some d ∧ ex = [d] ∧ CallO P g as sz els ∧ AV.refsL as = [] ∧ v = .sl d (nver m d) 0 els.length ∧ up = [(d, some ⟨sz, els, nver m d, false⟩)]) ∨
     MovesAt P m g as ex v up)
theorem namesOK_local {m m' : List (Nat × Option Box)} : ∀ {σ : Names}, eqOn (σ.map (·.1)) m m' → namesOK m σ → namesOK m' σ
  | [], _, _ => trivial
  | (a, b, c) :: l, h, hn => by
    obtain ⟨h1, h2, h3⟩ := hn
    refine ⟨?_, h2, namesOK_local (fun id hid => h id (by simp only [List.map_cons, List.mem_cons]; exact .inr hid)) h3⟩
    rw [← h a (by simp)]
    exact h1
theorem lendM_local {σ0 : Names} {m m' : List (Nat × Option Box)} : ∀ {σ : Names}, eqOn (σ.map (·.1)) m m' → lendM σ0 m σ = lendM σ0 m' σ
  | [], _ => rfl
  | (a, b, c) :: l, h => by
    simp only [lendM]
    rw [h a (by simp), lendM_local (σ := l) fun id hid => h id (by simp only [List.map_cons, List.mem_cons]; exact .inr hid)]
theorem lentStep_local {P : Program} {T : TT} {o : AOper} {e e' : List (Nat × AV)} {m m' : List (Nat × Option Box)} {ex : List Nat} {v : AV} {up : List (Nat × Option Box)}
    (he : ∀ t ∈ slotsOf o, get e t = get e' t) (hm : eqOn ex m m') (h : LentStep P T o e m ex v up) : LentStep P T o e' m' ex v up := by
  obtain ⟨hg, hf, f, args, ts, ho, g, as, ht, hh⟩ := h
  have hev := ev_local (op := o.op) (e := e) (e' := e') fun t ht => he t (by simp [slotsOf, ht])
  have hff : ev e f = ev e' f := hev f (by rw [ho]; simp [Op.operands, Call.operands])
  have ha : (args.toList.map fun x => st (ev e x)) = args.toList.map fun x => st (ev e' x) := List.map_congr_left fun x hx => by rw [hev x (by rw [ho]; simp [Op.operands, Call.operands]; exact .inr (by simpa using hx))]
  refine ⟨hg, by rw [← firms_local fun x hx => hev x (firm_sub _ x hx)]; exact hf, f, args, ts, ho, g, as, by rw [← hff, ← ha]; exact ht, ?_⟩
  rcases hh with ⟨σ, r, m1, h1, h2, h3, h4, h5⟩ | ⟨d, sz, els, h1, h2, h3, h4, h5, h6⟩ | hmv
  · subst h2
    exact .inl ⟨σ, r, m1, namesOK_local hm h1, rfl, by rw [← lendM_local hm]; exact h3, h4, h5⟩
  · subst h2
    have hv : nver m d = nver m' d := nver_local (hm d (by simp))
    exact .inr (.inl ⟨d, sz, els, h1, rfl, h3, h4, by rw [← hv]; exact h5, by rw [← hv]; exact h6⟩)
  · exact .inr (.inr (movesAt_local hm hmv))
/-- One operation, with what it looks at. -/
def Go1 (P : Program) (T : TT) (O : List Nat) (o : AOper) (s : St) (F : List Nat) (v : AV) (up : List (Nat × Option Box)) : Prop :=
  (Steps P T O o s.env s.mem v up ∧ F = idsOf o s.env) ∨ LentStep P T o s.env s.mem F v up
theorem go1_local {P : Program} {T : TT} {O : List Nat} {o : AOper} {s : St} {F : List Nat} {v : AV} {up : List (Nat × Option Box)} (h : Go1 P T O o s F v up) {e' : List (Nat × AV)} {m' : List (Nat × Option Box)}
    (he : ∀ t ∈ slotsOf o, get s.env t = get e' t) (hm : eqOn F s.mem m') : Steps P T O o e' m' v up ∨ LentStep P T o e' m' F v up := by
  rcases h with ⟨h, rfl⟩ | h
  · exact .inl (steps_local he hm h)
  · exact .inr (lentStep_local he hm h)
end Go.Abs
end

section
/- The value layer, part 18: one run in the text's order serves every order. -/
namespace Go.Abs

section
variable {P : Program} {T : TT} (hT : TOK P T) {B : Base} {O : List Nat}

structure Plan (P : Program) (T : TT) (O : List Nat) (ops : Array Oper) (n : Nat) where
  ao : Nat → AOper
  V : Nat → AV
  U : Nat → List (Nat × Option Box)
  F : Nat → List Nat
  s : St
  anc : Nat → List Nat
  size : ops.size = n
  oper : ∀ i o, ops[i]? = some o → aoper ops o = some (ao i)
  edge : ∀ i o, ops[i]? = some o → ∀ e ∈ o.after, Region.binds .any e = true → e.on < i
  close : ∀ D : Nat → Bool, (∀ i o, ops[i]? = some o → D i = true → ∀ e ∈ o.after, Region.binds .any e = true → D e.on = true) →
    ∀ i o, ops[i]? = some o → (∀ e ∈ o.after, Region.binds .any e = true → D e.on = true) → ∀ j ∈ anc i, D j = true
  still : ∀ j i, j < i → i < n → j ∈ anc i ∨ ((∀ t, (ao j).dst = some t → t ∉ slotsOf (ao i)) ∧ (∀ t, (ao i).dst = some t → t ∉ slotsOf (ao j)) ∧ ∀ t, (ao j).dst = some t → (ao i).dst ≠ some t)
  apart : ∀ j i, j < i → i < n → j ∈ anc i ∨ ((∀ id ∈ (U j).map (·.1), id ∉ F i) ∧
    (∀ id ∈ (U i).map (·.1), id ∉ F j) ∧ ∀ id ∈ (U j).map (·.1), id ∉ (U i).map (·.1))
  steps : ∀ i, i < n → Go1 P T O (ao i) (stOf (fun i => (ao i).dst) V U s n (fun k => decide (k < i))) (F i) (V i) (U i)

theorem aoper_dst {ops : Array Oper} {o : Oper} {ao : AOper} (h : aoper ops o = some ao) : ao.dst = o.dst := by
  unfold aoper at h
  split at h
  · cases h; rfl
  · split at h
    · cases h; rfl
    · cases h

variable {ops : Array Oper} {n : Nat} (p : Plan P T O ops n)

def Plan.st (p : Plan P T O ops n) (D : Nat → Bool) : St := stOf (fun i => (p.ao i).dst) p.V p.U p.s n D

theorem listed_set {listed : Array Bool} {i : Nat} (hi : i < listed.size) (k : Nat) : (listed.setIfInBounds i true).getD k false = (decide (k = i) || listed.getD k false) := by
  simp only [Array.getD_eq_getD_getElem?, Array.getElem?_setIfInBounds]
  by_cases e : i = k
  · subst e; simp [hi]
  · simp [e, Ne.symm e]

include hT in
theorem go1_wpOp {i : Nat} {o : Oper} {ao : AOper} {w : World} {a : Act} {s : St} (hi : ops[i]? = some o) (hao : aoper ops o = some ao) (hd : ∀ k, o.dst = some k → k < B.N) {v : AV} {up : List (Nat × Option Box)} {F : List Nat}
    (hrel : Rel B w a s) (hs : Steps P T O ao s.env s.mem v up ∨ LentStep P T ao s.env s.mem F v up) {K : Act → World → Prop} {Q : Exit → Act → World → Prop}
    (hk : ∀ w' a', Rel B w' a' (s.app o.dst v up) → K a' w') : wpOp P ops Q i K a w := by
  rcases hs with hs | hs
  · exact steps_wpOp hT hi hao hd hrel hs hk
  · obtain ⟨hg, hf, f, args, ts, ho, g, as, ht, hh⟩ := hs
    unfold wpOp
    rw [hi]
    simp only
    have hdo := aoper_dst hao
    have hog : o.guard = none ∧ ao.op = o.op := by
      unfold aoper at hao
      split at hao
      · rename_i hgg; cases hao; exact ⟨hgg, rfl⟩
      · split at hao
        · cases hao; cases hg
        · cases hao
    unfold Region.wanted
    rw [hog.1]
    simp only [if_true]
    rw [hog.2] at hf ho
    rcases hh with ⟨σ, r, m1, h1, _, h3, rfl, rfl⟩ | ⟨d, sz, els, h1, _, h3, h4, rfl, rfl⟩ | ⟨id, ver, n, k, id2, ver2, b, b2, rfl, _, m1, m2, m3, m4, m5, m6, m7, m8, m9, m10, m11, m12, rfl, rfl⟩
    · exact .inl (boxes_wp hrel ho hf ht σ h1 h3 hd fun a' w' h => hk _ _ h)
    · rw [hdo] at h1
      refine .inl (own_wp' hrel ho hf ht h3 h4 (hd d h1) h1 fun a' w' h => hk _ _ ?_)
      rw [h1]
      exact h
    · exact .inl (mv_wp hrel ho hf ht m1 m2 m3 m4 m5 m6 m7 m8 m9 m10 m11 m12 hd fun a' w' h => hk _ _ h)
include hT in
theorem any_sound (hd : ∀ i, i < n → ∀ t, (p.ao i).dst = some t → t < B.N) {Q : Exit → Act → World → Prop} (hQ : ∀ a w, Rel B w a (p.st fun _ => true) → Q .normal a w) :
    ∀ (fuel : Nat) (listed : Array Bool) (a : Act) (w : World), listed.size = n →
      (∀ i o, ops[i]? = some o → listed.getD i false = true → ∀ e ∈ o.after, Region.binds .any e = true → listed.getD e.on false = true) →
      ((List.range n).filter fun i => !listed.getD i false).length ≤ fuel → Rel B w a (p.st fun i => listed.getD i false) → wpAny P .any ops Q fuel listed a w := by
  have hsz := p.size
  have key : ∀ (listed : Array Bool) (a : Act) (w : World), listed.size = n → Region.ready .any ops listed = [] → Rel B w a (p.st fun i => listed.getD i false) → Q .normal a w := by
    intro listed a w hls hr hrel
    have hall : ∀ i, i < n → listed.getD i false = true := by
      intro i
      induction i using Nat.strongRecOn with
      | _ i ih =>
        intro hi
        cases hb : listed.getD i false with
        | true => rfl
        | false =>
          exfalso
          have hmem : i ∈ Region.ready .any ops listed := by
            rw [mem_ready]
            refine ⟨?_, ops[i]'(by omega), by simp [hsz, hi], fun e he hbd => ?_⟩
            · simp only [Array.getD_eq_getD_getElem?] at hb ⊢
              have : i < listed.size := by omega
              simpa [this] using hb
            · have hlt := p.edge i (ops[i]'(by omega)) (by simp [hsz, hi]) e he hbd
              exact ih e.on hlt (by omega)
          rw [hr] at hmem
          cases hmem
    refine hQ a w (hrel.same (fun t => ?_) fun id => ?_)
    · exact get_stOf _ _ _ _ _ t fun i hi _ => by simp only [hall i hi]
    · exact find_stOf _ _ _ _ _ id fun i hi _ => by simp only [hall i hi]
  intro fuel
  induction fuel with
  | zero =>
    intro listed a w hls hcl hfu hrel
    have hr : Region.ready .any ops listed = [] := by
      cases hq : Region.ready .any ops listed with
      | nil => rfl
      | cons i l =>
        exfalso
        have hmem : i ∈ Region.ready .any ops listed := by rw [hq]; simp
        obtain ⟨h1, o, ho, _⟩ := mem_ready.1 hmem
        have hi : i < n := by rw [← hsz]; exact (Array.getElem?_eq_some_iff.1 ho).1
        have : i ∈ (List.range n).filter fun i => !listed.getD i false := by
          rw [List.mem_filter]
          refine ⟨by simpa using hi, ?_⟩
          simp only [Array.getD_eq_getD_getElem?] at h1 ⊢
          have : i < listed.size := by omega
          simpa [this] using h1
        have hlen := List.length_pos_of_mem this
        omega
    exact ⟨hr, key listed a w hls hr hrel⟩
  | succ fuel ih =>
    intro listed a w hls hcl hfu hrel
    refine ⟨fun hr => key listed a w hls hr hrel, fun i hi => ?_⟩
    obtain ⟨h1, o, ho, hed⟩ := mem_ready.1 hi
    have hin : i < n := by rw [← hsz]; exact (Array.getElem?_eq_some_iff.1 ho).1
    have hDi : listed.getD i false = false := by
      simp only [Array.getD_eq_getD_getElem?] at h1 ⊢
      have : i < listed.size := by omega
      simpa [this] using h1
    have hanc : ∀ j ∈ p.anc i, listed.getD j false = true := p.close (fun k => listed.getD k false) hcl i o ho hed
    have hback : ∀ k, k < n → listed.getD k false = true → i ∉ p.anc k := by
      intro k hk hDk hmem
      have := p.close (fun k => listed.getD k false) hcl k (ops[k]'(by omega)) (by simp [hsz, hk]) (fun e he hb => hcl k _ (by simp [hsz, hk]) hDk e he hb) i hmem
      rw [hDi] at this
      cases this
    have hst : Steps P T O (p.ao i) (p.st fun i => listed.getD i false).env (p.st fun i => listed.getD i false).mem (p.V i) (p.U i) ∨ LentStep P T (p.ao i) (p.st fun i => listed.getD i false).env (p.st fun i => listed.getD i false).mem (p.F i) (p.V i) (p.U i) := by
      refine go1_local (p.steps i hin) (fun t ht => ?_) (fun id hid => ?_)
      · refine get_stOf _ _ _ _ _ t fun k hk hdk => ?_
        rcases Nat.lt_trichotomy k i with h | h | h
        · simp only [h, decide_true]
          rcases p.still k i h hin with h2 | h2
          · exact (hanc k h2).symm
          · exact absurd ht (h2.1 t hdk)
        · subst h; simp [hDi]
        · have : ¬ k < i := by omega
          simp only [this, decide_false]
          cases hDk : listed.getD k false with
          | false => rfl
          | true =>
            rcases p.still i k h hk with h2 | h2
            · exact absurd h2 (hback k hk hDk)
            · exact absurd ht (h2.2.1 t hdk)
      · refine find_stOf _ _ _ _ _ id fun k hk hdk => ?_
        rcases Nat.lt_trichotomy k i with h | h | h
        · simp only [h, decide_true]
          rcases p.apart k i h hin with h2 | h2
          · exact (hanc k h2).symm
          · exact absurd hid (h2.1 id hdk)
        · subst h; simp [hDi]
        · have : ¬ k < i := by omega
          simp only [this, decide_false]
          cases hDk : listed.getD k false with
          | false => rfl
          | true =>
            rcases p.apart i k h hk with h2 | h2
            · exact absurd h2 (hback k hk hDk)
            · exact absurd hid (h2.2.1 id hdk)
    have hao := p.oper i o ho
    have hdo := aoper_dst hao
    refine go1_wpOp hT ho hao (fun t ht => hd i hin t (by rw [hdo]; exact ht)) hrel hst fun w' a' hrel' => ?_
    refine ih (listed.setIfInBounds i true) a' w' (by simp [hls]) ?_ ?_ ?_
    · intro k ok hk hDk e he hb
      rw [listed_set (by omega)] at hDk ⊢
      by_cases hki : k = i
      · subst hki
        rw [ho] at hk
        cases hk
        rw [hed e he hb]
        simp
      · simp only [hki, decide_false, Bool.false_or] at hDk
        rw [hcl k ok hk hDk e he hb]
        simp
    · have hsub : ((List.range n).filter fun k => !(listed.setIfInBounds i true).getD k false).length < ((List.range n).filter fun k => !listed.getD k false).length := by
        have heq : ((List.range n).filter fun k => !(listed.setIfInBounds i true).getD k false) = ((List.range n).filter fun k => !listed.getD k false).filter fun k => !decide (k = i) := by
          rw [List.filter_filter]
          apply List.filter_congr
          intro k _
          rw [listed_set (by omega)]
          simp
        rw [heq]
        have hmem : i ∈ (List.range n).filter fun k => !listed.getD k false := by
          rw [List.mem_filter]
          exact ⟨by simpa using hin, by rw [hDi]; rfl⟩
        refine Nat.lt_of_le_of_ne (List.length_filter_le _ _) fun e => ?_
        have := (List.length_filter_eq_length_iff.1 e) i hmem
        simp at this
      omega
    · refine hrel'.same (fun t => ?_) fun id => ?_
      · by_cases ht : (p.ao i).dst = some t
        · have hl : get ((p.st fun i => listed.getD i false).app o.dst (p.V i) (p.U i)).env t = p.V i := by
            rw [← hdo, ht]
            simp [St.app, get]
          rw [hl]
          symm
          refine get_stOf_last _ _ _ _ _ hin (by rw [listed_set (by omega)]; simp) ht fun j hj hij hdj => ?_
          rw [listed_set (by omega)]
          have hji : ¬ j = i := by omega
          simp only [hji, decide_false, Bool.false_or]
          cases hDj : listed.getD j false with
          | false => rfl
          | true =>
            rcases p.still i j hij hj with h2 | h2
            · exact absurd h2 (hback j hj hDj)
            · exact absurd hdj (h2.2.2 t ht)
        · have hl : get ((p.st fun i => listed.getD i false).app o.dst (p.V i) (p.U i)).env t = get (p.st fun i => listed.getD i false).env t := by
            rw [← hdo]
            cases hdd : (p.ao i).dst with
            | none => rfl
            | some d =>
              have : t ≠ d := fun e => ht (by rw [hdd, e])
              simp [St.app, get, this]
          rw [hl]
          refine get_stOf _ _ _ _ _ t fun k hk hdk => ?_
          rw [listed_set (by omega)]
          have : k ≠ i := fun e => ht (by rw [← e]; exact hdk)
          simp [this]
      · by_cases ht : id ∈ (p.U i).map (·.1)
        · have hl : find ((p.st fun i => listed.getD i false).app o.dst (p.V i) (p.U i)).mem id = find (p.U i) id := by
            simp only [St.app]
            rw [find_append, if_pos ht]
          rw [hl]
          symm
          refine find_stOf_last _ _ _ _ _ hin (by rw [listed_set (by omega)]; simp) ht fun j hj hij hdj => ?_
          rw [listed_set (by omega)]
          have hji : ¬ j = i := by omega
          simp only [hji, decide_false, Bool.false_or]
          cases hDj : listed.getD j false with
          | false => rfl
          | true =>
            rcases p.apart i j hij hj with h2 | h2
            · exact absurd h2 (hback j hj hDj)
            · exact absurd hdj (h2.2.2 id ht)
        · have hl : find ((p.st fun i => listed.getD i false).app o.dst (p.V i) (p.U i)).mem id = find (p.st fun i => listed.getD i false).mem id := by
            simp only [St.app]
            rw [find_append, if_neg ht]
          rw [hl]
          refine find_stOf _ _ _ _ _ id fun k hk hdk => ?_
          rw [listed_set (by omega)]
          have : k ≠ i := fun e => ht (by rw [← e]; exact hdk)
          simp [this]

end
end Go.Abs
end

section
/- The value layer, part 19: regions and code. -/
namespace Go.Abs

/-! ### code without what the proof does not need -/
inductive ACode where
  | skip
  | reg (frz : List Nat) (ops : List AOper)
  | draw (frz : List Nat) (ops : List AOper) (pairs : List (Nat × Nat))
  | seq (a b : ACode)
  | cond (c : Operand) (a b : ACode)
  | block (id : Nat) (b : ACode)
  | loop (b : ACode)
  | exit (id : Nat)
  | ret

inductive AExit where
  | normal
  | exit (id : Nat)
  | ret

def uni : List Nat → List Nat → List Nat
  | [], b => b
  | x :: a, b => uni a (if b.contains x then b else x :: b)

theorem mem_uni {x : Nat} : ∀ {a b : List Nat}, x ∈ uni a b → x ∈ a ∨ x ∈ b
  | [], b, h => .inr h
  | y :: a, b, h => by
    simp only [uni] at h
    rcases mem_uni h with h | h
    · exact .inl (by simp [h])
    · split at h
      · exact .inr h
      · rcases List.mem_cons.1 h with h | h
        · exact .inl (by simp [h])
        · exact .inr h

def ancOf (acc : List (List Nat)) : List Nat → List Nat
  | [] => []
  | j :: es => uni (j :: acc.getD j []) (ancOf acc es)

def ancL : List (List Nat) → List (List Nat) → List (List Nat)
  | [], acc => acc
  | es :: rest, acc => ancL rest (acc ++ [ancOf acc es])

/-- What comes before by edges. -/
inductive Anc (E : Nat → List Nat) : Nat → Nat → Prop
  | edge {i j : Nat} (h : j ∈ E i) : Anc E i j
  | step {i k j : Nat} (h : k ∈ E i) (h' : Anc E k j) : Anc E i j

theorem mem_ancOf {E : Nat → List Nat} {acc : List (List Nat)} (hacc : ∀ k, ∀ j ∈ acc.getD k [], Anc E k j) {i : Nat} : ∀ {es : List Nat}, (∀ j ∈ es, j ∈ E i) → ∀ j ∈ ancOf acc es, Anc E i j
  | [], _, j, h => by cases h
  | k :: es, hes, j, h => by
    simp only [ancOf] at h
    rcases mem_uni h with h | h
    · rcases List.mem_cons.1 h with rfl | h
      · exact .edge (hes _ (by simp))
      · exact .step (hes k (by simp)) (hacc k j h)
    · exact mem_ancOf hacc (fun j hj => hes j (by simp [hj])) j h

theorem mem_ancL {E : Nat → List Nat} : ∀ (l : List (List Nat)) (acc : List (List Nat)), (∀ k, ∀ j ∈ acc.getD k [], Anc E k j) → (∀ i, i < l.length → ∀ j ∈ l.getD i [], j ∈ E (acc.length + i)) →
    ∀ k, ∀ j ∈ (ancL l acc).getD k [], Anc E k j
  | [], acc, hacc, _ => hacc
  | es :: l, acc, hacc, hl => by
    simp only [ancL]
    refine mem_ancL l _ ?_ ?_
    · intro k j hj
      rw [List.getD_eq_getElem?_getD, List.getElem?_append] at hj
      split at hj
      · exact hacc k j (by rw [List.getD_eq_getElem?_getD]; exact hj)
      · rename_i hk
        by_cases e : k - acc.length = 0
        · rw [e] at hj
          simp at hj
          have : k = acc.length := by omega
          subst this
          exact mem_ancOf hacc (fun j hj => hl 0 (by simp) j (by simpa using hj)) j hj
        · have : ([ancOf acc es])[k - acc.length]? = none := by simp; omega
          rw [this] at hj
          simp at hj
    · intro i hi j hj
      have := hl (i + 1) (by simpa using hi) j (by simpa using hj)
      simpa [Nat.add_assoc, Nat.add_comm 1 i] using this

def edgesOf (o : Oper) : List Nat := (o.after.toList.filter (Region.binds .any)).map (·.on)

def disj (a b : List Nat) : Bool := a.all fun x => !b.contains x

theorem disj_spec {a b : List Nat} (h : disj a b = true) : ∀ x ∈ a, x ∉ b := by
  intro x hx hb
  have := List.all_eq_true.1 h x hx
  simp [hb] at this

def optL : Option Nat → List Nat
  | some d => [d]
  | none => []

/-- Two operations whose slots do not touch. -/
def slotsApart (x y : AOper) : Bool := disj (optL x.dst) (slotsOf y) && disj (optL y.dst) (slotsOf x) && disj (optL x.dst) (optL y.dst)

/-- The pairs whose order is open; none, if slots of some touch. -/
def openPairs (l : List AOper) (anc : List (List Nat)) : Option (List (Nat × Nat)) :=
  (List.range l.length).foldr (fun i acc => acc.bind fun r => (List.range i).foldr (fun j acc => acc.bind fun r =>
    if (anc.getD i []).contains j then some r else
      match l[j]?, l[i]? with
      | some x, some y => if slotsApart x y then some ((j, i) :: r) else none
      | _, _ => none) (some r)) (some [])

theorem inner_spec {anc : List (List Nat)} {l : List AOper} {i : Nat} : ∀ (js : List Nat) (r r' : List (Nat × Nat)),
    js.foldr (fun j (acc : Option (List (Nat × Nat))) => acc.bind fun r =>
      if (anc.getD i []).contains j then some r else
        match l[j]?, l[i]? with
        | some x, some y => if slotsApart x y then some ((j, i) :: r) else none
        | _, _ => none) (some r) = some r' →
    (∀ q ∈ r, q ∈ r') ∧ ∀ j ∈ js, j ∈ anc.getD i [] ∨ ((j, i) ∈ r' ∧ ∃ x y, l[j]? = some x ∧ l[i]? = some y ∧ slotsApart x y = true)
  | [], r, r', h => by simp at h; subst h; exact ⟨fun q hq => hq, fun j hj => by cases hj⟩
  | j :: js, r, r', h => by
    simp only [List.foldr_cons] at h
    cases hq : js.foldr (fun j (acc : Option (List (Nat × Nat))) => acc.bind fun r =>
      if (anc.getD i []).contains j then some r else
        match l[j]?, l[i]? with
        | some x, some y => if slotsApart x y then some ((j, i) :: r) else none
        | _, _ => none) (some r) with
    | none => rw [hq] at h; simp at h
    | some r1 =>
      rw [hq] at h
      obtain ⟨h1, h2⟩ := inner_spec js r r1 hq
      simp only [Option.bind_some] at h
      split at h
      · rename_i hc
        cases h
        refine ⟨h1, fun k hk => ?_⟩
        rcases List.mem_cons.1 hk with rfl | hk
        · exact .inl (by simpa using hc)
        · exact h2 k hk
      · split at h
        · rename_i x y hx hy
          split at h
          · rename_i hap
            cases h
            refine ⟨fun q hq => by simp [h1 q hq], fun k hk => ?_⟩
            rcases List.mem_cons.1 hk with rfl | hk
            · exact .inr ⟨by simp, x, y, hx, hy, hap⟩
            · rcases h2 k hk with h3 | ⟨h3, h4⟩
              · exact .inl h3
              · exact .inr ⟨by simp [h3], h4⟩
          · cases h
        · cases h

theorem outer_spec {anc : List (List Nat)} {l : List AOper} : ∀ (is : List Nat) (r' : List (Nat × Nat)),
    is.foldr (fun i (acc : Option (List (Nat × Nat))) => acc.bind fun r => (List.range i).foldr (fun j acc => acc.bind fun r =>
      if (anc.getD i []).contains j then some r else
        match l[j]?, l[i]? with
        | some x, some y => if slotsApart x y then some ((j, i) :: r) else none
        | _, _ => none) (some r)) (some []) = some r' →
    ∀ i ∈ is, ∀ j, j < i → j ∈ anc.getD i [] ∨ ((j, i) ∈ r' ∧ ∃ x y, l[j]? = some x ∧ l[i]? = some y ∧ slotsApart x y = true)
  | [], r', _ => by intro i hi; cases hi
  | k :: is, r', h => by
    simp only [List.foldr_cons] at h
    cases hq : is.foldr (fun i (acc : Option (List (Nat × Nat))) => acc.bind fun r => (List.range i).foldr (fun j acc => acc.bind fun r =>
      if (anc.getD i []).contains j then some r else
        match l[j]?, l[i]? with
        | some x, some y => if slotsApart x y then some ((j, i) :: r) else none
        | _, _ => none) (some r)) (some []) with
    | none => rw [hq] at h; simp at h
    | some r1 =>
      rw [hq] at h
      simp only [Option.bind_some] at h
      obtain ⟨h1, h2⟩ := inner_spec _ _ _ h
      intro i hi j hj
      rcases List.mem_cons.1 hi with rfl | hi
      · exact h2 j (by simpa using hj)
      · rcases outer_spec is r1 hq i hi j hj with h3 | ⟨h3, h4⟩
        · exact .inl h3
        · exact .inr ⟨h1 _ h3, h4⟩

/-- A region's operations. -/
def aopers (ops : Array Oper) : List Oper → Option (List AOper)
  | [] => some []
  | o :: l => match aoper ops o with
    | some a => match aopers ops l with
      | some r => some (a :: r)
      | none => none
    | none => none

def dstsOK (N : Nat) : List AOper → Bool
  | [] => true
  | o :: l => (match o.dst with | some d => decide (d < N) | none => true) && dstsOK N l

def edgesOK (l : List Oper) (i : Nat) : Bool :=
  match l with
  | [] => true
  | o :: l => (edgesOf o).all (fun j => decide (j < i)) && edgesOK l (i + 1)

def stripReg (N : Nat) (gs : List Nat) (ops : Array Oper) (draw : Bool) : Option ACode :=
  match aopers ops ops.toList with
  | some l => if dstsOK N l then
      if draw then
        (if edgesOK ops.toList 0 then (openPairs l (ancL (ops.toList.map edgesOf) [])).map fun pairs => .draw gs l pairs else none)
      else some (.reg gs l)
    else none
  | none => none

/-- A region's boxes that become immutable ahead of it are told by the region's number. -/
def strip (N : Nat) (G : Nat → List Nat) : Code → Option ACode
  | .skip => some .skip
  | .region id ops draw => stripReg N (G id) ops draw
  | .seq a b => (strip N G a).bind fun x => (strip N G b).map fun y => .seq x y
  | .cond c a b => (strip N G a).bind fun x => (strip N G b).map fun y => .cond c x y
  | .block id b => (strip N G b).map fun x => .block id x
  | .loop b => (strip N G b).map fun x => .loop x
  | .exit id => some (.exit id)
  | .ret => some .ret
  | _ => none

theorem aopers_get {ops : Array Oper} : ∀ {l : List Oper} {r : List AOper}, aopers ops l = some r → r.length = l.length ∧ ∀ (i : Nat) (o : Oper), l[i]? = some o → ∃ a, r[i]? = some a ∧ aoper ops o = some a
  | [], r, h => by simp [aopers] at h; subst h; simp
  | o :: l, r, h => by
    simp only [aopers] at h
    cases ha : aoper ops o with
    | none => rw [ha] at h; cases h
    | some a =>
      rw [ha] at h
      cases hl : aopers ops l with
      | none => rw [hl] at h; cases h
      | some r' =>
        rw [hl] at h
        cases h
        obtain ⟨h1, h2⟩ := aopers_get hl
        refine ⟨by simp [h1], fun i o' hi => ?_⟩
        cases i with
        | zero => simp at hi; subst hi; exact ⟨a, rfl, ha⟩
        | succ i => simpa using h2 i o' (by simpa using hi)

theorem dstsOK_get {N : Nat} {l : List AOper} : dstsOK N l = true → ∀ (i : Nat) (a : AOper), l[i]? = some a → ∀ t, a.dst = some t → t < N := by
  induction l with
  | nil => intro h i a ha; simp at ha
  | cons o l ih =>
    intro h i a ha t ht
    have h' : (match o.dst with | some d => decide (d < N) | none => true) = true ∧ dstsOK N l = true := by
      rw [dstsOK] at h
      exact Bool.and_eq_true_iff.1 h
    cases i with
    | zero =>
      have e : o = a := by simpa using ha
      subst e
      have h1 := h'.1
      rw [ht] at h1
      simpa using h1
    | succ i => exact ih h'.2 i a (by simpa using ha) t ht

theorem edgesOK_get {l : List Oper} : ∀ {k : Nat}, edgesOK l k = true → ∀ (i : Nat) (o : Oper), l[i]? = some o → ∀ j ∈ edgesOf o, j < k + i := by
  induction l with
  | nil => intro k h i o ho; simp at ho
  | cons o l ih =>
    intro k h i o' ho j hj
    have h' : (edgesOf o).all (fun j => decide (j < k)) = true ∧ edgesOK l (k + 1) = true := by
      rw [edgesOK] at h
      exact Bool.and_eq_true_iff.1 h
    cases i with
    | zero =>
      have e : o = o' := by simpa using ho
      rw [← e] at hj
      have := List.all_eq_true.1 h'.1 j hj
      simpa using this
    | succ i =>
      have := ih h'.2 i o' (by simpa using ho) j hj
      omega

/-! ### runs in the text's order -/
/-- The operations of a region one by one, with what each looks at and changes. -/
def Runs (P : Program) (T : TT) (O : List Nat) : List AOper → St → List (List Nat × List Nat) → (List (List Nat × List Nat) → St → Prop) → Prop
  | [], s, acc, K => K acc s
  | o :: l, s, acc, K => ∃ v up F, Go1 P T O o s F v up ∧ Runs P T O l (s.app o.dst v up) (acc ++ [(F, up.map (·.1))]) K

def apartAll (acc : List (List Nat × List Nat)) : List (Nat × Nat) → Bool
  | [] => true
  | (j, i) :: l => (match acc[j]?, acc[i]? with
      | some x, some y => disj x.2 y.1 && disj y.2 x.1 && disj x.2 y.2
      | _, _ => false) && apartAll acc l

theorem apartAll_get {acc : List (List Nat × List Nat)} : ∀ {l : List (Nat × Nat)}, apartAll acc l = true → ∀ j i, (j, i) ∈ l → ∃ x y, acc[j]? = some x ∧ acc[i]? = some y ∧ disj x.2 y.1 = true ∧ disj y.2 x.1 = true ∧ disj x.2 y.2 = true
  | (j', i') :: l, h, j, i, hm => by
    simp only [apartAll, Bool.and_eq_true] at h
    rcases List.mem_cons.1 hm with e | hm
    · simp only [Prod.mk.injEq] at e
      obtain ⟨rfl, rfl⟩ := e
      have h1 := h.1
      cases hx : acc[j]? with
      | none => rw [hx] at h1; cases h1
      | some x =>
        cases hy : acc[i]? with
        | none => rw [hx, hy] at h1; cases h1
        | some y =>
          rw [hx, hy] at h1
          simp only [Bool.and_eq_true] at h1
          exact ⟨x, y, rfl, rfl, h1.1.1, h1.1.2, h1.2⟩
    · exact apartAll_get h.2 j i hm

/-- The states of a run. -/
def stAt (l : List AOper) (E : List (AV × List (Nat × Option Box))) (s : St) : Nat → St
  | 0 => s
  | i + 1 => (stAt l E s i).app ((l[i]?).bind (·.dst)) ((E.getD i (.junk, [])).1) ((E.getD i (.junk, [])).2)

theorem stAt_cons (o : AOper) (l : List AOper) (x : AV × List (Nat × Option Box)) (E : List (AV × List (Nat × Option Box))) (s : St) : ∀ i, stAt (o :: l) (x :: E) s (i + 1) = stAt l E (s.app o.dst x.1 x.2) i
  | 0 => by simp [stAt]
  | i + 1 => by
    rw [stAt, stAt_cons o l x E s i]
    simp [stAt]

theorem Runs.out {P : Program} {T : TT} {O : List Nat} {K : List (List Nat × List Nat) → St → Prop} : ∀ {l : List AOper} {s : St} {acc : List (List Nat × List Nat)}, Runs P T O l s acc K →
    ∃ (E : List (AV × List (Nat × Option Box))) (fps : List (List Nat × List Nat)), E.length = l.length ∧ K (acc ++ fps) (stAt l E s l.length) ∧ fps.length = l.length ∧
      ∀ (i : Nat) (o : AOper), l[i]? = some o → fps[i]? = some ((fps.getD i ([], [])).1, (E.getD i (.junk, [])).2.map (·.1)) ∧ Go1 P T O o (stAt l E s i) (fps.getD i ([], [])).1 (E.getD i (.junk, [])).1 (E.getD i (.junk, [])).2
  | [], s, acc, h => ⟨[], [], rfl, by simpa [stAt, Runs] using h, rfl, by simp⟩
  | o :: l, s, acc, h => by
    obtain ⟨v, up, F, hs, hr⟩ := h
    obtain ⟨E, fps, hE, hK, hf, h2⟩ := Runs.out hr
    refine ⟨(v, up) :: E, (F, up.map (·.1)) :: fps, by simp [hE], ?_, by simp [hf], fun i o' hi => ?_⟩
    · rw [List.length_cons, stAt_cons]
      simpa using hK
    · cases i with
      | zero => simp at hi; subst hi; exact ⟨by simp, by simpa [stAt] using hs⟩
      | succ i => rw [stAt_cons]; simpa using h2 i o' (by simpa using hi)

theorem stOf_lt {l : List AOper} {E : List (AV × List (Nat × Option Box))} {s : St} : ∀ i, i ≤ l.length →
    stOf (fun i => (l.getD i ⟨none, .ready 0, 0, none⟩).dst) (fun i => (E.getD i (.junk, [])).1) (fun i => (E.getD i (.junk, [])).2) s l.length (fun k => decide (k < i)) = stAt l E s i := by
  intro i hi
  have hfl : (List.range l.length).filter (fun k => decide (k < i)) = List.range i := by
    have e : List.range l.length = List.range i ++ (List.range (l.length - i)).map (i + ·) := by
      rw [← List.range_add]; congr 1; omega
    rw [e, List.filter_append]
    have e1 : (List.range i).filter (fun k => decide (k < i)) = List.range i := by
      rw [List.filter_eq_self]; intro k hk; simpa using hk
    have e2 : ((List.range (l.length - i)).map (i + ·)).filter (fun k => decide (k < i)) = [] := by
      rw [List.filter_eq_nil_iff]; intro k hk; obtain ⟨q, _, rfl⟩ := List.mem_map.1 hk; simp
    rw [e1, e2, List.append_nil]
  unfold stOf
  rw [hfl]
  clear hfl
  induction i with
  | zero => rfl
  | succ i ih =>
    rw [List.range_succ, List.foldl_append, ih (by omega)]
    simp only [List.foldl_cons, List.foldl_nil, stAt]
    congr 1
    have : i < l.length := by omega
    simp [List.getD_eq_getElem?_getD, this]

end Go.Abs
end

section
/- The value layer, part 20: a box that is no longer written becomes immutable. -/
namespace Go.Abs

mutual
def frzA (b : Box) (id : Nat) : AV → AV
  | .sl i ver off len => if i = id then (if ver = b.ver ∧ off + len ≤ b.els.length then .seq b.sz (rng b.els off len) false else .junk) else .sl i ver off len
  | .pt i ver idx o => if i = id then (if ver = b.ver ∧ idx < b.els.length then .ipt (nth b.els idx) o else .junk) else .pt i ver idx o
  | .agg l => .agg (frzL b id l)
  | .tup l => .tup (frzL b id l)
  | .fn f p q => .fn f (frzL b id p) (frzL b id q)
  | .maybe g a => .maybe g (frzA b id a)
  | .raw v => .raw v
  | .seq sz l full => .seq sz l full
  | .ipt e o => .ipt e o
  | .mp i ver => if i = id then (if ver = b.ver then .map b.els else .junk) else .mp i ver
  | .map l => .map l
  | .junk => .junk
def frzL (b : Box) (id : Nat) : List AV → List AV
  | [] => []
  | a :: l => frzA b id a :: frzL b id l
end

theorem frzL_length {b : Box} {id : Nat} : ∀ {l : List AV}, (frzL b id l).length = l.length
  | [] => rfl
  | a :: l => by simp [frzL, frzL_length]
theorem frzL_get {b : Box} {id : Nat} : ∀ {l : List AV} {i : Nat}, i < l.length → (frzL b id l).getD i .junk = frzA b id (l.getD i .junk)
  | a :: l, 0, _ => by simp [frzL]
  | a :: l, i + 1, h => by simpa [frzL] using frzL_get (l := l) (i := i) (by simpa using h)

theorem frzA_width {b : Box} {id : Nat} (a : AV) : (frzA b id a).width = a.width := by
  cases a with
  | agg l => simp only [frzA, AV.width, frzL_length]
  | sl i ver off len =>
    simp only [frzA]
    by_cases h : i = id
    · rw [if_pos h]; by_cases h2 : ver = b.ver ∧ off + len ≤ b.els.length
      · rw [if_pos h2]; rfl
      · rw [if_neg h2]; rfl
    · rw [if_neg h]
  | pt i ver idx o =>
    simp only [frzA]
    by_cases h : i = id
    · rw [if_pos h]; by_cases h2 : ver = b.ver ∧ idx < b.els.length
      · rw [if_pos h2]; rfl
      · rw [if_neg h2]; rfl
    · rw [if_neg h]
  | mp i ver =>
    simp only [frzA]
    by_cases h : i = id
    · rw [if_pos h]; by_cases h2 : ver = b.ver
      · rw [if_pos h2]; rfl
      · rw [if_neg h2]; rfl
    · rw [if_neg h]
  | _ => simp only [frzA, AV.width]

theorem frzA_elemVal {b : Box} {id : Nat} (a : AV) (sz : Nat) (c : Array Value) (o : Nat) : elemVal (frzA b id a) sz c o = elemVal a sz c o := by
  cases a with
  | agg l => simp only [frzA, elemVal]
  | sl i ver off len =>
    simp only [frzA]
    by_cases h : i = id
    · rw [if_pos h]; by_cases h2 : ver = b.ver ∧ off + len ≤ b.els.length
      · rw [if_pos h2]; rfl
      · rw [if_neg h2]; rfl
    · rw [if_neg h]
  | pt i ver idx o =>
    simp only [frzA]
    by_cases h : i = id
    · rw [if_pos h]; by_cases h2 : ver = b.ver ∧ idx < b.els.length
      · rw [if_pos h2]; rfl
      · rw [if_neg h2]; rfl
    · rw [if_neg h]
  | mp i ver =>
    simp only [frzA]
    by_cases h : i = id
    · rw [if_pos h]; by_cases h2 : ver = b.ver
      · rw [if_pos h2]; rfl
      · rw [if_neg h2]; rfl
    · rw [if_neg h]
  | _ => simp only [frzA, elemVal]

def Mu.del (μ : Mu) (id : Nat) : Mu := fun i => if i = id then Option.none else μ i

def frzB (b : Box) (id : Nat) (x : Box) : Box := if x.var then { x with els := frzL b id x.els } else x

def frzSt (s : St) (id : Nat) (b : Box) : St := ⟨s.env.map fun p => (p.1, frzA b id p.2), (id, none) :: s.mem.map fun p => (p.1, p.2.map (frzB b id))⟩

theorem get_map {f : AV → AV} (hj : f .junk = .junk) (t : Nat) : ∀ (e : List (Nat × AV)), get (e.map fun p => (p.1, f p.2)) t = f (get e t)
  | [] => by simp [get, hj]
  | (k, v) :: e => by
    simp only [List.map_cons, get]
    split
    · rfl
    · exact get_map hj t e

theorem find_map {f : Box → Box} (id : Nat) : ∀ (m : List (Nat × Option Box)), find (m.map fun p => (p.1, p.2.map f)) id = (find m id).map f
  | [] => rfl
  | (k, b) :: m => by
    simp only [List.map_cons, find]
    split
    · rfl
    · exact find_map id m

/-- The Rep of what no longer names the box. -/
theorem rep_frz {w : World} {X : Nat → Prop} {m : List (Nat × Option Box)} {μ0 : Mu} (hi : Inv w X μ0 m) {id : Nat} {b : Box} (hb : find m id = some b) (hvar : b.var = true → AV.refsL b.els = [])
    {a : AV} {v : Value} {μ : Mu} (h : Rep w (Yof X μ0) μ a v) : μ = μ0 → Rep w (Yof X (μ0.del id)) (μ0.del id) (frzA b id a) v := by
  have hsub : ∀ g, ¬ Yof X μ0 g → ¬ Yof X (μ0.del id) g := by
    intro g hy hy'
    rcases hy' with hx | ⟨i, l, n, hm, hbk⟩
    · exact hy (.inl hx)
    · by_cases e : i = id
      · simp [Mu.del, e] at hm
      · simp [Mu.del, e] at hm; exact hy (.inr ⟨i, l, n, hm, hbk⟩)
  have hmono : ∀ q, ¬ Yof X μ0 q → q < w.heap.size → ¬ Yof X (μ0.del id) q ∧ w.heap[q]? = w.heap[q]? := fun q hy _ => ⟨hsub q hy, rfl⟩
  obtain ⟨l, hm, hlv, hls, hh⟩ := hi.box id b hb
  have hgone : ∀ g n, l.blk = some (g, n) → ¬ Yof X (μ0.del id) g := by
    intro g n hbk hy
    rcases hy with hx | ⟨i, l', n', hm', hbk'⟩
    · exact hi.out g ⟨id, l, n, hm, hbk⟩ hx
    · by_cases e : i = id
      · simp [Mu.del, e] at hm'
      · simp [Mu.del, e] at hm'
        exact e (hi.apart i id l' l g n' n hm' hm hbk' hbk)
  have hel : l.sz ≠ 0 → ∀ i, i < b.els.length → ∀ g n, l.blk = some (g, n) → ∃ c el, w.heap[g]? = some (.cells c el (0, 0)) ∧ c.size = n ∧ l.base + b.els.length * b.sz ≤ n ∧ (∀ j, j < n → (c.getD j undef).oneCell' = true) ∧
      ∀ i, i < b.els.length → (b.els.getD i .junk).width = b.sz ∧ Rep w (Yof X (μ0.del id)) Mu.none (b.els.getD i .junk) (elemVal (b.els.getD i .junk) b.sz c (l.base + i * b.sz)) := by
    intro hz _ _ g n hbk
    unfold Holds at hh
    rw [hbk] at hh
    obtain ⟨hbig, hcell, _⟩ := hh
    obtain ⟨c, el, hw, hcs, hn, h1, hr⟩ := hcell (by rw [← hls]; exact hz)
    refine ⟨c, el, hw, hcs, hn, h1, fun i hi' => ⟨(hr i hi').1, ?_⟩⟩
    have := (hr i hi').2
    cases hv : b.var with
    | false => rw [hv] at this; exact this.mono hmono (Mu.later.refl _)
    | true =>
      rw [hv] at this
      exact (this.pure (refsL_get (hvar hv) hi') Mu.none).mono hmono (Mu.later.refl _)
  induction h with
  | raw h => intro _; exact .raw h
  | agg h0 h1 h ih =>
    intro e
    simp only [frzA]
    refine .agg (by rw [frzL_length]; exact h0) (fun i hi' => h1 i (by rwa [frzL_length] at hi')) (fun i hi' => ?_)
    rw [frzL_length] at hi'
    rw [frzL_get hi']
    exact ih i hi' e
  | tup h0 h ih =>
    intro e
    simp only [frzA]
    refine .tup (by rw [frzL_length]; exact h0) (fun i hi' => ?_)
    rw [frzL_length] at hi'
    rw [frzL_get hi']
    exact ih i hi' e
  | nil => intro _; simp only [frzA]; exact .nil
  | seq hY hb hc hf hbig hfit hw h1 h ih => intro _; simp only [frzA]; exact .seq (hsub _ hY) hb hc hf hbig hfit hw h1 fun i hi' => (h i hi').mono hmono (Mu.later.refl _)
  | ipt hY hb hfit h1 h ih => intro _; simp only [frzA]; exact .ipt (hsub _ hY) hb hfit h1 (h.mono hmono (Mu.later.refl _))
  | pt hm' hv hbk hz =>
    rename_i μ i ver idx sub loc g n
    intro e
    subst e
    simp only [frzA]
    by_cases e : i = id
    · subst e
      rw [hm] at hm'
      cases hm'
      simp only [if_true]
      split
      · rename_i hc
        obtain ⟨c, el, hw, hcs, hn, h1, hr⟩ := hel hz idx hc.2 g n hbk
        have hri := hr idx hc.2
        have hfi := mul_lt_of_fit hc.2 (Nat.le_refl (b.els.length * b.sz))
        have hwid : (nth b.els idx).width = b.sz := hri.1
        rw [hls]
        exact Rep.ipt (off := l.base + idx * b.sz) (e := nth b.els idx) (hgone g n hbk) hw (by rw [hwid]; omega) (fun j hj1 hj2 => h1 j (by rw [hwid] at hj2; omega)) (by rw [hwid]; exact hri.2)
      · exact .junk
    · rw [if_neg e]
      exact .pt (by simp [Mu.del, e, hm']) hv hbk hz
  | ptOld hm' hv =>
    rename_i μ i ver idx sub loc v
    intro e
    subst e
    simp only [frzA]
    by_cases e : i = id
    · subst e
      rw [hm] at hm'
      cases hm'
      simp only [if_true]
      rw [if_neg (by omega)]
      exact .junk
    · rw [if_neg e]
      exact .ptOld (by simp [Mu.del, e, hm']) hv
  | slNil hm' hv hnf =>
    rename_i μ i ver off loc p
    intro e
    subst e
    simp only [frzA]
    by_cases e : i = id
    · subst e
      simp only [if_true]
      split
      · have : rng b.els off 0 = [] := by rw [rng_eq]; simp
        rw [this]
        exact .nil
      · exact .junk
    · rw [if_neg e]
      exact .slNil (by simp [Mu.del, e, hm']) hv hnf
  | sl hm' hv hbk hc hfit hz =>
    rename_i μ i ver off len cap loc g n
    intro e
    subst e
    simp only [frzA]
    by_cases e : i = id
    · subst e
      rw [hm] at hm'
      cases hm'
      simp only [if_true]
      split
      · rename_i hcond
        obtain ⟨_, hlen⟩ := hcond
        by_cases h0 : b.els.length = 0
        · have hl0 : len = 0 := by omega
          subst hl0
          have : rng b.els off 0 = [] := by rw [rng_eq]; simp
          rw [this]
          unfold Holds at hh
          rw [hbk] at hh
          obtain ⟨hbig, hcell, _⟩ := hh
          obtain ⟨c, el, hw, hcs, hn, h1, hr⟩ := hcell (by rw [← hls]; exact hz)
          have e1 : (off + cap) * l.sz = off * l.sz + cap * l.sz := Nat.add_mul _ _ _
          have := Rep.seq (w := w) (Y := Yof X (μ.del i)) (μ := μ.del i) (sz := b.sz) (l := []) (full := false) (b := g) (off := l.base + off * l.sz) (cap := cap) (hgone g n hbk) hw (by simp) (by simp) (by simp) (by simp; omega) (by simp) (by intro j h1 h2; simp at h2; omega) (by simp)
          simpa using this
        · obtain ⟨c, el, hw, hcs, hn, h1, hr⟩ := hel hz 0 (by omega) g n hbk
          have hl : (rng b.els off len).length = len := by rw [rng_eq]; simp; omega
          have e0 : (off + len) * b.sz ≤ b.els.length * b.sz := Nat.mul_le_mul_right _ hlen
          rw [Nat.add_mul] at e0
          have hbig : b.els.length ≤ big := hh.1
          have hget : ∀ k, k < len → (rng b.els off len).getD k .junk = b.els.getD (off + k) .junk := by
            intro k hi'
            rw [rng_eq]
            simp only [List.getD_eq_getElem?_getD]
            rw [List.getElem?_take, if_pos hi', List.getElem?_drop]
          have := Rep.seq (w := w) (Y := Yof X (μ.del i)) (μ := μ.del i) (sz := b.sz) (l := rng b.els off len) (full := false) (b := g) (off := l.base + off * b.sz) (cap := cap) (hgone g n hbk) hw (by rw [hl]; exact hc) (fun h => by cases h)
            (by rw [hl]; omega) (by rw [hl]; omega) (fun k hi' => by rw [hl] at hi'; rw [hget k hi']; exact (hr (off + k) (by omega)).1)
            (fun j hj1 hj2 => h1 j (by rw [hl] at hj2; omega)) (fun k hi' => by
              rw [hl] at hi'
              rw [hget k hi']
              have := (hr (off + k) (by omega)).2
              rw [Nat.add_assoc, ← Nat.add_mul]
              exact this)
          rw [hl] at this
          rw [hls]
          exact this
      · exact .junk
    · rw [if_neg e]
      exact .sl (by simp [Mu.del, e, hm']) hv hbk hc hfit hz
  | slOld hm' hv =>
    rename_i μ i ver off len loc v
    intro e
    subst e
    simp only [frzA]
    by_cases e : i = id
    · subst e
      rw [hm] at hm'
      cases hm'
      simp only [if_true]
      rw [if_neg (by omega)]
      exact .junk
    · rw [if_neg e]
      exact .slOld (by simp [Mu.del, e, hm']) hv
  | mp hm' hv hbk hz =>
    rename_i μ i ver loc g n
    intro e
    subst e
    simp only [frzA]
    by_cases e : i = id
    · subst e
      rw [hm] at hm'
      cases hm'
      simp only [if_true]
      rw [if_pos (by omega)]
      unfold Holds at hh
      rw [hbk] at hh
      obtain ⟨hbig, _, hmp⟩ := hh
      obtain ⟨_, es, clock, hw, hs, hr⟩ := hmp (by rw [← hls]; exact hz)
      exact .map (hgone g n hbk) hw hs hbig fun k hk => (hr k hk).mono hmono (Mu.later.refl _)
    · rw [if_neg e]
      exact .mp (by simp [Mu.del, e, hm']) hv hbk hz
  | mpOld hm' hv =>
    rename_i μ i ver loc v
    intro e
    subst e
    simp only [frzA]
    by_cases e : i = id
    · subst e
      rw [hm] at hm'
      cases hm'
      simp only [if_true]
      rw [if_neg (by omega)]
      exact .junk
    · rw [if_neg e]
      exact .mpOld (by simp [Mu.del, e, hm']) hv
  | map hY hb hs hbig h ih => intro _; simp only [frzA]; exact .map (hsub _ hY) hb hs hbig fun k hk => (h k hk).mono hmono (Mu.later.refl _)
  | fn h0 ht h k ih ik =>
    intro e
    simp only [frzA]
    refine .fn (by rw [frzL_length]; exact h0) (by rw [frzL_length]; exact ht) (fun i hi' => ?_) (fun i hi' => ?_)
    · rw [frzL_length] at hi'; rw [frzL_get hi']; exact ih i hi' e
    · rw [frzL_length] at hi'; rw [frzL_get hi']; exact ik i hi' e
  | maybe h0 h ih => intro e; simp only [frzA]; exact .maybe h0 fun g => ih g e
  | junk => intro _; simp only [frzA]; exact .junk

theorem frz_rel {B : Base} {w : World} {a : Act} {s : St} {id : Nat} {b : Box} (h : Rel B w a s) (hb : find s.mem id = some b) (hvar : b.var = true → AV.refsL b.els = []) : Rel B w a (frzSt s id b) := by
  obtain ⟨μ, h⟩ := h
  refine ⟨μ.del id, h.defers, h.size, ⟨?_, ?_, ?_, ?_⟩, fun t => ?_, h.ext, ?_, h.base, ?_⟩
  · intro i hf
    by_cases e : i = id
    · simp [Mu.del, e]
    · simp only [frzSt, find, e, if_false, find_map, Option.map_eq_none_iff] at hf
      simp [Mu.del, e, h.inv.no i hf]
  · intro i b' hf
    by_cases e : i = id
    · simp [frzSt, find, e] at hf
    · simp only [frzSt, find, e, if_false, find_map, Option.map_eq_some_iff] at hf
      obtain ⟨b0, hf0, rfl⟩ := hf
      obtain ⟨l, hm, hv, hs, hh⟩ := h.inv.box i b0 hf0
      have hg1 : (frzB b id b0).ver = b0.ver := by unfold frzB; split <;> rfl
      have hg2 : (frzB b id b0).sz = b0.sz := by unfold frzB; split <;> rfl
      have hg3 : (frzB b id b0).var = b0.var := by unfold frzB; split <;> rfl
      have hg4 : (frzB b id b0).els.length = b0.els.length := by unfold frzB; split <;> simp [frzL_length]
      refine ⟨l, by simp [Mu.del, e, hm], by rw [hg1, hv], by rw [hg2, hs], ?_⟩
      unfold Holds at *
      refine ⟨by rw [hg4]; exact hh.1, ?_⟩
      cases hbk : l.blk with
      | none =>
        rw [hbk] at hh
        have : b0.els = [] := hh.2
        simp only
        exact List.eq_nil_of_length_eq_zero (by rw [hg4, this]; rfl)
      | some gn =>
        obtain ⟨g, n⟩ := gn
        rw [hbk] at hh
        obtain ⟨_, hcell, hmp⟩ := hh
        refine ⟨fun hz => ?_, fun hz => ?_⟩
        · rw [hg2] at hz
          obtain ⟨c, el, hw, hcs, hn, h1, hr⟩ := hcell hz
          refine ⟨c, el, hw, hcs, by rw [hg4, hg2]; exact hn, h1, fun k hk => ?_⟩
          rw [hg4] at hk
          rw [hg2, hg3]
          have hrk := hr k hk
          cases hv0 : b0.var with
          | true =>
            have hel : (frzB b id b0).els.getD k .junk = frzA b id (b0.els.getD k .junk) := by
              unfold frzB
              rw [if_pos hv0]
              exact frzL_get hk
            rw [hel, frzA_width, frzA_elemVal]
            rw [hv0] at hrk
            exact ⟨hrk.1, rep_frz h.inv hb hvar hrk.2 rfl⟩
          | false =>
            have hel : (frzB b id b0).els = b0.els := by
              unfold frzB
              rw [if_neg (by simp [hv0])]
            rw [hel]
            rw [hv0] at hrk
            refine ⟨hrk.1, hrk.2.mono (fun q hy _ => ⟨fun hy' => ?_, rfl⟩) (Mu.later.refl _)⟩
            rcases hy' with hx | ⟨i', l', n', hm', hbk'⟩
            · exact hy (.inl hx)
            · by_cases e' : i' = id
              · simp [Mu.del, e'] at hm'
              · simp [Mu.del, e'] at hm'; exact hy (.inr ⟨i', l', n', hm', hbk'⟩)
        · rw [hg2] at hz
          obtain ⟨hv0, es, clock, hw, hs, hr⟩ := hmp hz
          have hel : frzB b id b0 = b0 := by
            unfold frzB
            rw [if_neg (by simp [hv0])]
          rw [hel]
          refine ⟨hv0, es, clock, hw, hs, fun k hk => (hr k hk).mono (fun q hy _ => ⟨fun hy' => ?_, rfl⟩) (Mu.later.refl _)⟩
          rcases hy' with hx | ⟨i', l', n', hm', hbk'⟩
          · exact hy (.inl hx)
          · by_cases e' : i' = id
            · simp [Mu.del, e'] at hm'
            · simp [Mu.del, e'] at hm'; exact hy (.inr ⟨i', l', n', hm', hbk'⟩)
  · intro i i' l l' g n n' hm hm' hb1 hb2
    by_cases e : i = id
    · simp [Mu.del, e] at hm
    · by_cases e' : i' = id
      · simp [Mu.del, e'] at hm'
      · simp [Mu.del, e] at hm
        simp [Mu.del, e'] at hm'
        exact h.inv.apart i i' l l' g n n' hm hm' hb1 hb2
  · rintro g ⟨i, l, n, hm, hbk⟩
    by_cases e : i = id
    · simp [Mu.del, e] at hm
    · simp [Mu.del, e] at hm
      exact h.inv.out g ⟨i, l, n, hm, hbk⟩
  · simp only [frzSt]
    rw [get_map (by simp [frzA])]
    exact rep_frz h.inv hb hvar (h.env t) rfl
  · rintro g ⟨i, l, n, hm, hbk⟩
    by_cases e : i = id
    · simp [Mu.del, e] at hm
    · simp [Mu.del, e] at hm
      exact h.mine g ⟨i, l, n, hm, hbk⟩
  · intro i l0 l h0 hm
    by_cases e : i = id
    · simp [Mu.del, e] at hm
    · simp [Mu.del, e] at hm
      exact h.kept i l0 l h0 hm

end Go.Abs
end

section
/- The value layer, part 38 (between 32 and 21): functions whose result owns boxes. -/
namespace Go.Abs

/-- The contract of a function whose result owns boxes (that are new). -/
def CallM (P : Program) (f : FuncId) (as : List AV) (r : AV) (m' : List (Nat × Option Box)) : Prop :=
  Enter P f ∧ ∀ (w : World) (X : Nat → Prop) (vs : Array Value), (∀ b, X b → b < w.heap.size) → vs.size = as.length →
    (∀ i, i < as.length → Rep w X Mu.none (as.getD i .junk) (vs.getD i undef)) →
    Calls P f vs w fun e w' => ∃ v μ', e = .returned v ∧ Grows w w' ∧ (∀ id l, μ' id = some l → 0 < l.ver) ∧ (∀ g, blks μ' g → w.heap.size ≤ g) ∧ Inv w' X μ' m' ∧ Rep w' (Yof X μ') μ' r v

/-- Names that are moved up by k. -/
def shf (k : Nat) (m0 : List (Nat × Option Box)) (i ver : Nat) : Option (Nat × Nat) :=
  match find m0 i with
  | some b => if b.ver = ver then some (i + k, ver) else none
  | none => none
def shB (k : Nat) (m0 : List (Nat × Option Box)) (x : Box) : Box := ⟨x.sz, if x.var then renL (shf k m0) x.els else x.els, x.ver, x.var⟩
def shM (k : Nat) (m0 : List (Nat × Option Box)) : List (Nat × Option Box) → List (Nat × Option Box)
  | [] => []
  | (c, x) :: l => (c + k, x.map (shB k m0)) :: shM k m0 l
theorem find_sh {k : Nat} {m0 m : List (Nat × Option Box)} : ∀ {m' : List (Nat × Option Box)}, (m'.all fun p => p.2.isSome) = true → ∀ j, find (shM k m0 m' ++ m) j = if k ≤ j then (match find m' (j - k) with | some x => some (shB k m0 x) | none => find m j) else find m j
  | [], _, j => by simp [shM, find]
  | (c, none) :: l, h, j => by simp at h
  | (c, some x) :: l, h, j => by
    have hl : (l.all fun p => p.2.isSome) = true := by simpa using h
    have ih := find_sh (k := k) (m0 := m0) (m := m) hl j
    simp only [shM, List.cons_append, find, Option.map_some]
    by_cases e : j = c + k
    · subst e
      rw [if_pos rfl, if_pos (by omega), if_pos (by omega)]
    · rw [if_neg e, ih]
      by_cases hk : k ≤ j
      · rw [if_pos hk, if_pos hk, if_neg (by omega)]
      · rw [if_neg hk, if_neg hk]

section
variable {P : Program} {T : TT} {B : Base} {w : World} {a : Act} {s : St}

/-- A call whose result owns boxes. -/
theorem mem_wp {o : Oper} (hrel : Rel B w a s) {f : Operand} {args : Array Operand} {ts : Array TypeId} (ho : o.op = .call ⟨.value f, args, ts⟩) (hf : firms s.env (firm o.op)) {g : FuncId} {as : List AV}
    (htgt : tgt (st (ev s.env f)) (nrmL T ts.toList (args.toList.map fun x => st (ev s.env x))) = some (g, as)) (k : Nat) {r : AV} {m' : List (Nat × Option Box)}
    (hc : CallM P g as r m') (hall : (m'.all fun p => p.2.isSome) = true) (hfr : ∀ i b, find m' i = some b → find s.mem (i + k) = none) (hrf : AV.refsL as = []) (hd : ∀ k, o.dst = some k → k < B.N) {next : Act → World → Prop} {Q : Exit → Act → World → Prop}
    (hk : ∀ a' w', Rel B w' a' (s.app o.dst (renA (shf k m') r) (shM k m' m')) → next a' w') : o.wp P a w next Q := by
  obtain ⟨μ, h⟩ := hrel
  refine call_wp h ho hf htgt hc.1 fun vs hsz hargs => ?_
  have := hc.2 w (Yof B.X μ) vs (fun b hb => by
    rcases hb with hx | hb
    · exact Nat.lt_of_lt_of_le (h.base b hx).1 h.ext.size
    · exact blks.lt h.inv hb) hsz (fun i hi => (hargs i hi).pure (refsL_get hrf hi) _)
  refine Calls.mono this ?_
  rintro e w'' ⟨v, μ', rfl, hg, hver, hge, hinv', hret⟩
  obtain ⟨μ2, hμ2⟩ : ∃ μ2 : Mu, μ2 = fun j => if k ≤ j then (match find m' (j - k) with | some _ => μ' (j - k) | none => μ j) else μ j := ⟨_, rfl⟩
  have hin : ∀ i b, find m' i = some b → μ2 (i + k) = μ' i := by
    intro i b hb
    rw [hμ2]
    simp [hb]
  have hold : ∀ j l, μ j = some l → μ2 j = some l := by
    intro j l hj
    rw [hμ2]
    dsimp only
    split
    · rename_i hkj
      split
      · rename_i b hb
        have := hfr _ _ hb
        rw [show j - k + k = j by omega] at this
        rw [h.inv.no j this] at hj
        cases hj
      · exact hj
    · exact hj
  have hcase : ∀ j l, μ2 j = some l → (μ j = some l ∧ (k ≤ j → find m' (j - k) = none)) ∨ ∃ i b, j = i + k ∧ find m' i = some b ∧ μ' i = some l := by
    intro j l hj
    rw [hμ2] at hj
    dsimp only at hj
    split at hj
    · rename_i hkj
      split at hj
      · rename_i b hb
        exact .inr ⟨j - k, b, by omega, hb, hj⟩
      · rename_i hb
        exact .inl ⟨hj, fun _ => hb⟩
    · rename_i hkj
      exact .inl ⟨hj, fun h => absurd h hkj⟩
  have hbl : ∀ q, blks μ2 q ↔ blks μ q ∨ blks μ' q := by
    intro q
    constructor
    · rintro ⟨j, l, n, hj, hb⟩
      rcases hcase j l hj with ⟨h1, _⟩ | ⟨i, b, _, _, h1⟩
      · exact .inl ⟨j, l, n, h1, hb⟩
      · exact .inr ⟨i, l, n, h1, hb⟩
    · rintro (⟨j, l, n, hj, hb⟩ | ⟨i, l, n, hj, hb⟩)
      · exact ⟨j, l, n, hold j l hj, hb⟩
      · cases hf : find m' i with
        | none => rw [hinv'.no i hf] at hj; cases hj
        | some b => exact ⟨i + k, l, n, (hin i b hf).trans hj, hb⟩
  have hY2 : ∀ q, Yof B.X μ2 q ↔ Yof (Yof B.X μ) μ' q := by
    intro q
    unfold Yof
    rw [hbl]
    constructor
    · rintro (h1 | h1 | h1)
      · exact .inl (.inl h1)
      · exact .inl (.inr h1)
      · exact .inr h1
    · rintro ((h1 | h1) | h1)
      · exact .inl h1
      · exact .inr (.inl h1)
      · exact .inr (.inr h1)
  have hkeep : ∀ q, ¬ Yof B.X μ q → q < w.heap.size → ¬ Yof B.X μ2 q ∧ w''.heap[q]? = w.heap[q]? := fun q hq hlt => ⟨fun hy => by
    rcases (hY2 q).1 hy with hy | hb
    · exact hq hy
    · have := hge q hb
      omega, hg.2.2.2.2 q hlt⟩
  have hback : ∀ q, ¬ Yof (Yof B.X μ) μ' q → q < w''.heap.size → ¬ Yof B.X μ2 q ∧ w''.heap[q]? = w''.heap[q]? := fun q hq _ => ⟨fun hy => hq ((hY2 q).1 hy), rfl⟩
  have hlater : μ.later μ2 := fun id l hl => ⟨l, hold id l hl, .inl rfl⟩
  have hlead : Leads (shf k m') μ' μ2 := by
    intro i ver j u hj
    unfold shf at hj
    split at hj
    · rename_i b hb
      split at hj
      · rename_i hv
        cases hj
        obtain ⟨l, h1, h2, _⟩ := hinv'.box i b hb
        exact ⟨l, l, h1, h2.trans hv, (hin i b hb).trans h1, h2.trans hv, rfl, rfl, rfl⟩
      · cases hj
    · cases hj
  have hrel : RelM B w'' a ⟨s.env, shM k m' m' ++ s.mem⟩ μ2 := by
    refine ⟨h.defers, h.size, ⟨fun j hj => ?_, fun j b' hj => ?_, fun j j' l l' g n n' h1 h2 h3 h4 => ?_, fun g hg' hx => ?_⟩, fun t => (h.env t).mono hkeep hlater, ?_, fun g hg' => ?_, h.base, fun id l0 l hl0 hl => ?_⟩
    · dsimp only at hj
      rw [find_sh hall] at hj
      cases hm : μ2 j with
      | none => rfl
      | some l =>
        rcases hcase j l hm with ⟨h1, h2⟩ | ⟨i, b, rfl, h2, h3⟩
        · by_cases hkj : k ≤ j
          · rw [if_pos hkj, h2 hkj] at hj
            rw [h.inv.no j hj] at h1
            cases h1
          · rw [if_neg hkj] at hj
            rw [h.inv.no j hj] at h1
            cases h1
        · rw [if_pos (by omega), show i + k - k = i by omega, h2] at hj
          cases hj
    · dsimp only at hj
      rw [find_sh hall] at hj
      have hh : (∃ i x, j = i + k ∧ find m' i = some x ∧ b' = shB k m' x) ∨ find s.mem j = some b' := by
        split at hj
        · rename_i hkj
          split at hj
          · rename_i x hx
            cases hj
            exact .inl ⟨j - k, x, by omega, hx, rfl⟩
          · exact .inr hj
        · exact .inr hj
      rcases hh with ⟨i, x, rfl, hx, rfl⟩ | hj
      · obtain ⟨l, e1, e2, e3, hh⟩ := hinv'.box i x hx
        refine ⟨l, (hin i x hx).trans e1, e2, e3, ?_⟩
        unfold shB
        unfold Holds at hh ⊢
        have hlen : (if x.var = true then renL (shf k m') x.els else x.els).length = x.els.length := by split <;> simp [renL_length]
        refine ⟨by dsimp only; rw [hlen]; exact hh.1, ?_⟩
        have h2 := hh.2
        dsimp only at h2 ⊢
        cases hbk : l.blk with
        | none =>
          rw [hbk] at h2
          exact List.eq_nil_of_length_eq_zero (by rw [hlen, h2]; rfl)
        | some gn =>
          obtain ⟨g', n'⟩ := gn
          rw [hbk] at h2
          refine ⟨fun hz => ?_, fun hz => ?_⟩
          · obtain ⟨c, el, hw, hcs, hfit, h1, hr⟩ := h2.1 hz
            refine ⟨c, el, hw, hcs, by rw [hlen]; exact hfit, h1, fun q hq => ?_⟩
            rw [hlen] at hq
            obtain ⟨r1, r2⟩ := hr q hq
            cases hvr : x.var with
            | true =>
              rw [hvr] at r2
              simp only [if_true] at r2 ⊢
              rw [renL_get hq, renA_width, renA_elemVal]
              exact ⟨r1, (ren_rep hlead r2 rfl).mono hback (Mu.later.refl _)⟩
            | false =>
              rw [hvr] at r2
              simp only [Bool.false_eq_true, if_false] at r2 ⊢
              exact ⟨r1, r2.mono hback (Mu.later.refl _)⟩
          · obtain ⟨hv0, es, clock, hw, hs, hr⟩ := h2.2 hz
            simp only [hv0, Bool.false_eq_true, if_false]
            exact ⟨trivial, es, clock, hw, hs, fun i hi => (hr i hi).mono hback (Mu.later.refl _)⟩
      · obtain ⟨l, h1, h2, h3, h4⟩ := h.inv.box j b' hj
        exact ⟨l, hold j l h1, h2, h3, h4.mono hkeep hlater fun g n hgn => hg.2.2.2.2 g (blks.lt h.inv ⟨j, l, n, h1, hgn⟩)⟩
    · rcases hcase j l h1 with ⟨m1, _⟩ | ⟨i, b, rfl, _, m1⟩ <;> rcases hcase j' l' h2 with ⟨m2, _⟩ | ⟨i', b', rfl, _, m2⟩
      · exact h.inv.apart j j' l l' g n n' m1 m2 h3 h4
      · have := blks.lt h.inv ⟨j, l, n, m1, h3⟩
        have := hge g ⟨i', l', n', m2, h4⟩
        omega
      · have := blks.lt h.inv ⟨j', l', n', m2, h4⟩
        have := hge g ⟨i, l, n, m1, h3⟩
        omega
      · rw [hinv'.apart i i' l l' g n n' m1 m2 h3 h4]
    · rcases (hbl g).1 hg' with hb | hb
      · exact h.inv.out g hb hx
      · exact hinv'.out g hb (.inl hx)
    · exact h.ext.trans (own' := fun _ => False) ⟨hg.1, hg.2.1, hg.2.2.1, hg.2.2.2.1, fun b hb _ => hg.2.2.2.2 b hb⟩ fun g _ hf => hf.elim
    · rcases (hbl g).1 hg' with hb | hb
      · exact h.mine g hb
      · exact .inr (Nat.le_trans h.ext.size (hge g hb))
    · rcases hcase id l hl with ⟨m1, _⟩ | ⟨i, b, rfl, _, m1⟩
      · exact h.kept id l0 l hl0 m1
      · exact .inr (hver i l m1)
  exact ⟨v, rfl, hk _ _ ⟨μ2, hrel.app hd ((ren_rep hlead hret rfl).mono hback (Mu.later.refl _))⟩⟩
end
end Go.Abs
end

section
/- The value layer, part 40 (between 38 and 21): a box under another name. -/
namespace Go.Abs

def renF (i j : Nat) (m : List (Nat × Option Box)) (k ver : Nat) : Option (Nat × Nat) :=
  match find m k with
  | some b => if b.ver = ver then some (if k = i then j else k, ver) else none
  | none => none
def renB (f : Nat → Nat → Option (Nat × Nat)) (b : Box) : Box := if b.var then { b with els := renL f b.els } else b
def renSt (s : St) (i j : Nat) : St := ⟨s.env.map fun p => (p.1, renA (renF i j s.mem) p.2), (j, (find s.mem i).map (renB (renF i j s.mem))) :: (i, none) :: s.mem.map fun p => (p.1, p.2.map (renB (renF i j s.mem)))⟩
theorem renB_ver {f : Nat → Nat → Option (Nat × Nat)} {b : Box} : (renB f b).ver = b.ver := by unfold renB; split <;> rfl
theorem renB_sz {f : Nat → Nat → Option (Nat × Nat)} {b : Box} : (renB f b).sz = b.sz := by unfold renB; split <;> rfl

theorem renB_holds {w : World} {Y Y' : Nat → Prop} {μ μ' : Mu} {f : Nat → Nat → Option (Nat × Nat)} (hf : Leads f μ μ') (hY : ∀ q, ¬ Y q → q < w.heap.size → ¬ Y' q ∧ w.heap[q]? = w.heap[q]?) {l : Loc} {b : Box} (h : Holds w Y μ l b) : Holds w Y' μ' l (renB f b) := by
  have hlen : (renB f b).els.length = b.els.length := by unfold renB; split <;> simp [renL_length]
  have hvar : (renB f b).var = b.var := by unfold renB; split <;> rfl
  unfold Holds at h ⊢
  refine ⟨by rw [hlen]; exact h.1, ?_⟩
  have h2 := h.2
  cases hbk : l.blk with
  | none =>
    rw [hbk] at h2
    exact List.eq_nil_of_length_eq_zero (by rw [hlen, h2]; rfl)
  | some gn =>
    obtain ⟨g', n'⟩ := gn
    rw [hbk] at h2
    dsimp only
    rw [renB_sz, hvar, hlen]
    refine ⟨fun hz => ?_, fun hz => ?_⟩
    · obtain ⟨c, el, hw, hcs, hfit, h1, hre⟩ := h2.1 hz
      refine ⟨c, el, hw, hcs, hfit, h1, fun q hq => ?_⟩
      obtain ⟨r1, r2⟩ := hre q hq
      unfold renB
      cases hvr : b.var with
      | true =>
        rw [hvr] at r2
        simp only [if_true] at r2 ⊢
        rw [renL_get hq, renA_width, renA_elemVal]
        exact ⟨r1, (ren_rep hf r2 rfl).mono hY (Mu.later.refl _)⟩
      | false =>
        rw [hvr] at r2
        simp only [Bool.false_eq_true, if_false] at r2 ⊢
        exact ⟨r1, r2.mono hY (Mu.later.refl _)⟩
    · obtain ⟨hv0, es, clock, hw, hs, hre⟩ := h2.2 hz
      unfold renB
      simp only [hv0, Bool.false_eq_true, if_false]
      exact ⟨trivial, es, clock, hw, hs, fun i hi => (hre i hi).mono hY (Mu.later.refl _)⟩

theorem ren_rel {B : Base} {w : World} {a : Act} {s : St} {i j : Nat} {b : Box} (h : Rel B w a s) (hb : find s.mem i = some b) (hj : find s.mem j = none) (h0 : 0 < b.ver) : Rel B w a (renSt s i j) := by
  obtain ⟨μ, h⟩ := h
  have hij : i ≠ j := fun e => by rw [e, hj] at hb; cases hb
  obtain ⟨l0, hl0, hlv0, hls0, hh0⟩ := h.inv.box i b hb
  have hμj := h.inv.no j hj
  obtain ⟨μ2, hμ2⟩ : ∃ μ2 : Mu, μ2 = fun k => if k = j then μ i else if k = i then none else μ k := ⟨_, rfl⟩
  have h2j : μ2 j = μ i := by rw [hμ2]; simp
  have h2i : μ2 i = none := by rw [hμ2]; simp [hij]
  have h2k : ∀ k, k ≠ i → k ≠ j → μ2 k = μ k := fun k h1 h2 => by rw [hμ2]; simp [h1, h2]
  have hcase : ∀ k l, μ2 k = some l → ∃ k', μ k' = some l ∧ ((k = j ∧ k' = i) ∨ (k ≠ j ∧ k ≠ i ∧ k' = k)) := by
    intro k l hk
    by_cases e : k = j
    · subst e; exact ⟨i, h2j.symm.trans hk, .inl ⟨rfl, rfl⟩⟩
    · by_cases e2 : k = i
      · subst e2; rw [h2i] at hk; cases hk
      · exact ⟨k, (h2k k e2 e).symm.trans hk, .inr ⟨e, e2, rfl⟩⟩
  have hbl : ∀ q, blks μ2 q ↔ blks μ q := by
    intro q
    constructor
    · rintro ⟨k, l, n, hk, hbk⟩
      obtain ⟨k', h1, _⟩ := hcase k l hk
      exact ⟨k', l, n, h1, hbk⟩
    · rintro ⟨k, l, n, hk, hbk⟩
      by_cases e : k = j
      · subst e; rw [hμj] at hk; cases hk
      · by_cases e2 : k = i
        · subst e2; exact ⟨j, l, n, h2j.trans hk, hbk⟩
        · exact ⟨k, l, n, (h2k k e2 e).trans hk, hbk⟩
  have hY2 : ∀ q, Yof B.X μ2 q ↔ Yof B.X μ q := fun q => by unfold Yof; rw [hbl]
  have hkeep : ∀ q, ¬ Yof B.X μ q → q < w.heap.size → ¬ Yof B.X μ2 q ∧ w.heap[q]? = w.heap[q]? := fun q hq _ => ⟨fun hy => hq ((hY2 q).1 hy), rfl⟩
  have hlead : Leads (renF i j s.mem) μ μ2 := by
    intro k ver k2 u hk
    unfold renF at hk
    split at hk
    · rename_i b' hb'
      split at hk
      · rename_i hv
        simp only [Option.some.injEq, Prod.mk.injEq] at hk
        obtain ⟨rfl, rfl⟩ := hk
        obtain ⟨l, h1, h2, _⟩ := h.inv.box k b' hb'
        refine ⟨l, l, h1, h2.trans hv, ?_, h2.trans hv, rfl, rfl, rfl⟩
        split
        · rename_i e; subst e; exact h2j.trans h1
        · rename_i e
          have e2 : k ≠ j := fun e2 => by rw [e2, hj] at hb'; cases hb'
          exact (h2k k e e2).trans h1
      · cases hk
    · cases hk
  refine ⟨μ2, h.defers, h.size, ⟨fun k hk => ?_, fun k b' hk => ?_, fun k k' l l' g n n' h1 h2 h3 h4 => ?_, fun g hg => h.inv.out g ((hbl g).1 hg)⟩, fun t => ?_, h.ext, fun g hg => h.mine g ((hbl g).1 hg), h.base, fun k l1 l hl1 hl => ?_⟩
  · simp only [renSt, find] at hk
    by_cases e : k = j
    · rw [if_pos e, hb] at hk; cases hk
    · rw [if_neg e] at hk
      by_cases e2 : k = i
      · rw [e2]; exact h2i
      · rw [if_neg e2, find_map, Option.map_eq_none_iff] at hk
        exact (h2k k e2 e).trans (h.inv.no k hk)
  · simp only [renSt, find] at hk
    by_cases e : k = j
    · rw [if_pos e, hb] at hk
      simp only [Option.map_some, Option.some.injEq] at hk
      subst hk
      subst e
      exact ⟨l0, h2j.trans hl0, hlv0.trans renB_ver.symm, hls0.trans renB_sz.symm, renB_holds hlead hkeep hh0⟩
    · rw [if_neg e] at hk
      by_cases e2 : k = i
      · rw [if_pos e2] at hk; cases hk
      · rw [if_neg e2, find_map, Option.map_eq_some_iff] at hk
        obtain ⟨b1, hb1, rfl⟩ := hk
        obtain ⟨l, e3, e4, e5, hh⟩ := h.inv.box k b1 hb1
        exact ⟨l, (h2k k e2 e).trans e3, e4.trans renB_ver.symm, e5.trans renB_sz.symm, renB_holds hlead hkeep hh⟩
  · obtain ⟨m, m1, mc⟩ := hcase k l h1
    obtain ⟨m', m2, mc'⟩ := hcase k' l' h2
    have := h.inv.apart m m' l l' g n n' m1 m2 h3 h4
    rcases mc with ⟨rfl, rfl⟩ | ⟨c1, c2, rfl⟩ <;> rcases mc' with ⟨rfl, rfl⟩ | ⟨c3, c4, rfl⟩
    · rfl
    · exact absurd this.symm c4
    · exact absurd this c2
    · exact this
  · simp only [renSt]
    rw [get_map (by simp [renA])]
    exact (ren_rep hlead (h.env t) rfl).mono hkeep (Mu.later.refl _)
  · obtain ⟨m, m1, mc⟩ := hcase k l hl
    rcases mc with ⟨rfl, rfl⟩ | ⟨c1, c2, rfl⟩
    · rw [hl0] at m1; cases m1
      exact .inr (by omega)
    · exact h.kept _ l1 l hl1 m1

def dropF (i : Nat) (m : List (Nat × Option Box)) (k ver : Nat) : Option (Nat × Nat) :=
  if k = i then none else match find m k with
  | some b => if b.ver = ver then some (k, ver) else none
  | none => none
def dropSt (s : St) (i : Nat) : St := ⟨s.env.map fun p => (p.1, renA (dropF i s.mem) p.2), (i, none) :: s.mem.map fun p => (p.1, p.2.map (renB (dropF i s.mem)))⟩
/-- A box is forgotten, with all that names it. -/
theorem drop_rel {B : Base} {w : World} {a : Act} {s : St} {i : Nat} (h : Rel B w a s) : Rel B w a (dropSt s i) := by
  obtain ⟨μ, h⟩ := h
  obtain ⟨μ2, hμ2⟩ : ∃ μ2 : Mu, μ2 = fun k => if k = i then none else μ k := ⟨_, rfl⟩
  have h2i : μ2 i = none := by rw [hμ2]; simp
  have h2k : ∀ k, k ≠ i → μ2 k = μ k := fun k h1 => by rw [hμ2]; simp [h1]
  have hcase : ∀ k l, μ2 k = some l → k ≠ i ∧ μ k = some l := by
    intro k l hk
    by_cases e : k = i
    · subst e; rw [h2i] at hk; cases hk
    · exact ⟨e, (h2k k e).symm.trans hk⟩
  have hbl : ∀ q, blks μ2 q → blks μ q := fun q ⟨k, l, n, hk, hbk⟩ => ⟨k, l, n, (hcase k l hk).2, hbk⟩
  have hkeep : ∀ q, ¬ Yof B.X μ q → q < w.heap.size → ¬ Yof B.X μ2 q ∧ w.heap[q]? = w.heap[q]? := fun q hq _ => ⟨fun hy => by
    rcases hy with hx | hb
    · exact hq (.inl hx)
    · exact hq (.inr (hbl q hb)), rfl⟩
  have hlead : Leads (dropF i s.mem) μ μ2 := by
    intro k ver k2 u hk
    unfold dropF at hk
    split at hk
    · cases hk
    · rename_i hki
      split at hk
      · rename_i b' hb'
        split at hk
        · rename_i hv
          simp only [Option.some.injEq, Prod.mk.injEq] at hk
          obtain ⟨rfl, rfl⟩ := hk
          obtain ⟨l, h1, h2, _⟩ := h.inv.box k b' hb'
          exact ⟨l, l, h1, h2.trans hv, (h2k k hki).trans h1, h2.trans hv, rfl, rfl, rfl⟩
        · cases hk
      · cases hk
  refine ⟨μ2, h.defers, h.size, ⟨fun k hk => ?_, fun k b' hk => ?_, fun k k' l l' g n n' h1 h2 h3 h4 => ?_, fun g hg => h.inv.out g (hbl g hg)⟩, fun t => ?_, h.ext, fun g hg => h.mine g (hbl g hg), h.base, fun k l1 l hl1 hl => ?_⟩
  · simp only [dropSt, find] at hk
    by_cases e2 : k = i
    · rw [e2]; exact h2i
    · rw [if_neg e2, find_map, Option.map_eq_none_iff] at hk
      exact (h2k k e2).trans (h.inv.no k hk)
  · simp only [dropSt, find] at hk
    by_cases e2 : k = i
    · rw [if_pos e2] at hk; cases hk
    · rw [if_neg e2, find_map, Option.map_eq_some_iff] at hk
      obtain ⟨b1, hb1, rfl⟩ := hk
      obtain ⟨l, e3, e4, e5, hh⟩ := h.inv.box k b1 hb1
      exact ⟨l, (h2k k e2).trans e3, e4.trans renB_ver.symm, e5.trans renB_sz.symm, renB_holds hlead hkeep hh⟩
  · exact h.inv.apart k k' l l' g n n' (hcase k l h1).2 (hcase k' l' h2).2 h3 h4
  · simp only [dropSt]
    rw [get_map (by simp [renA])]
    exact (ren_rep hlead (h.env t) rfl).mono hkeep (Mu.later.refl _)
  · exact h.kept k l1 l hl1 (hcase k l hl).2

/-- Boxes take other names; the pair (i, i) says that the box i is forgotten. -/
def rens : List (Nat × Nat) → (St → Prop) → St → Prop
  | [], K, s => K s
  | (i, j) :: l, K, s => if i = j then rens l K (dropSt s i) else match find s.mem i with
    | some b => 0 < b.ver ∧ find s.mem j = none ∧ rens l K (renSt s i j)
    | none => False
theorem rens_rel {B : Base} {w : World} {a : Act} {K : St → Prop} : ∀ {l : List (Nat × Nat)} {s : St}, rens l K s → Rel B w a s → ∃ s', K s' ∧ Rel B w a s'
  | [], s, h, hr => ⟨s, h, hr⟩
  | (i, j) :: l, s, h, hr => by
    simp only [rens] at h
    split at h
    · exact rens_rel h (drop_rel hr)
    · split at h
      · rename_i b hb
        exact rens_rel h.2.2 (ren_rel hr hb h.2.1 h.1)
      · exact h.elim
end Go.Abs
end

section
/- The value layer, part 41 (between 38 and 21): lists of owned rows as somebody sees them who cannot see the boxes. -/
namespace Go.Abs

def deepE (m : List (Nat × Option Box)) : AV → AV
  | .sl id ver off len => snap m (.sl id ver off len)
  | .agg l => .agg (snapL m l)
  | a => a
def deepEOK (m : List (Nat × Option Box)) : AV → Prop
  | .sl id ver off len => snapOK m (.sl id ver off len)
  | .agg l => snapOKL m l
  | a => a.refs = []
def deepEs (m : List (Nat × Option Box)) : List AV → Prop
  | [] => True
  | a :: l => deepEOK m a ∧ deepEs m l
def deep (m : List (Nat × Option Box)) : AV → AV
  | .sl id ver off len => match find m id with
    | some b => if b.var then .seq b.sz ((rng b.els off len).map (deepE m)) false else snap m (.sl id ver off len)
    | none => .junk
  | a => snap m a
def deepOK (m : List (Nat × Option Box)) : AV → Prop
  | .sl id ver off len => match find m id with
    | some b => if b.var then b.ver = ver ∧ off + len ≤ b.els.length ∧ deepEs m (rng b.els off len) else snapOK m (.sl id ver off len)
    | none => False
  | a => snapOK m a
def deepL (m : List (Nat × Option Box)) : List AV → List AV
  | [] => []
  | a :: l => deep m a :: deepL m l
def deepOKL (m : List (Nat × Option Box)) : List AV → Prop
  | [] => True
  | a :: l => deepOK m a ∧ deepOKL m l
theorem deepL_length {m : List (Nat × Option Box)} : ∀ {l : List AV}, (deepL m l).length = l.length
  | [] => rfl
  | a :: l => by simp [deepL, deepL_length]
theorem deepL_get {m : List (Nat × Option Box)} : ∀ {l : List AV} {i : Nat}, i < l.length → (deepL m l).getD i .junk = deep m (l.getD i .junk)
  | a :: l, 0, _ => by simp [deepL]
  | a :: l, i + 1, h => by simpa [deepL] using deepL_get (l := l) (i := i) (by simpa using h)
theorem deepOKL_get {m : List (Nat × Option Box)} : ∀ {l : List AV} {i : Nat}, deepOKL m l → i < l.length → deepOK m (l.getD i .junk)
  | a :: l, 0, h, _ => by simpa using h.1
  | a :: l, i + 1, h, hi => by simpa using deepOKL_get (l := l) (i := i) h.2 (by simpa using hi)
theorem deepEs_get {m : List (Nat × Option Box)} : ∀ {l : List AV} {i : Nat}, deepEs m l → i < l.length → deepEOK m (l.getD i .junk)
  | a :: l, 0, h, _ => by simpa using h.1
  | a :: l, i + 1, h, hi => by simpa using deepEs_get (l := l) (i := i) h.2 (by simpa using hi)
theorem deepE_width {m : List (Nat × Option Box)} (a : AV) : (deepE m a).width = a.width := by
  cases a with
  | sl i ver off len => simp only [deepE, snap]; split <;> rfl
  | agg l => simp only [deepE, AV.width, snapL_length]
  | _ => rfl
theorem deepE_elemVal {m : List (Nat × Option Box)} (a : AV) (sz : Nat) (c : Array Value) (o : Nat) : elemVal (deepE m a) sz c o = elemVal a sz c o := by
  cases a with
  | sl i ver off len => simp only [deepE, snap]; split <;> rfl
  | _ => rfl
theorem deepE_rep {w : World} {X : Nat → Prop} {m : List (Nat × Option Box)} {μ : Mu} {a : AV} {v : Value} (h : Rep w (Yof X μ) μ a v) (hi : Inv w X μ m) (ho : deepEOK m a) : Rep w X Mu.none (deepE m a) v := by
  cases a with
  | sl i ver off len => exact rep_snap h (fun b hy hx => hy (.inl hx)) hi ho
  | agg l => exact rep_snap (a := .agg l) h (fun b hy hx => hy (.inl hx)) hi ho
  | _ => exact (h.pure ho Mu.none).mono (fun q hy _ => ⟨fun hx => hy (.inl hx), rfl⟩) (Mu.later.refl _)
theorem rep_deep {w : World} {X : Nat → Prop} {m : List (Nat × Option Box)} {μ : Mu} {a : AV} {v : Value} (h : Rep w (Yof X μ) μ a v) (hi : Inv w X μ m) (ho : deepOK m a) : Rep w X Mu.none (deep m a) v := by
  cases a with
  | sl id ver off len =>
    simp only [deepOK, deep] at ho ⊢
    cases hf : find m id with
    | none => rw [hf] at ho; exact ho.elim
    | some b =>
      rw [hf] at ho
      dsimp only at ho ⊢
      cases hvar : b.var with
      | false =>
        simp only [hvar, Bool.false_eq_true, if_false] at ho ⊢
        exact rep_snap h (fun b hy hx => hy (.inl hx)) hi ho
      | true =>
        simp only [hvar, if_true] at ho ⊢
        obtain ⟨hver, hlen, hes⟩ := ho
        obtain ⟨l, hm', hlv, hls, hh⟩ := hi.box id b hf
        cases h with
        | slNil hm hv hnf =>
          have : rng b.els off 0 = [] := by rw [rng_eq]; simp
          rw [this]
          exact .nil
        | slOld hm hv =>
          rw [hm] at hm'; cases hm'
          omega
        | sl hm hv hbk hc hfit hz =>
          rename_i cap loc g n
          rw [hm] at hm'; cases hm'
          obtain ⟨lv, lsz, l0, lb⟩ := l
          simp only at hlv hls hbk hv hfit hz
          subst hlv hls hbk
          obtain ⟨hbig, hcell, _⟩ := hh
          obtain ⟨c, el, hw, hcs, hn, h1, hr⟩ := hcell hz
          simp only at hn hr
          have hl : (rng b.els off len).length = len := by rw [rng_eq]; simp; omega
          have hl2 : ((rng b.els off len).map (deepE m)).length = len := by rw [List.length_map, hl]
          have e0 : (off + len) * b.sz ≤ b.els.length * b.sz := Nat.mul_le_mul_right _ hlen
          rw [Nat.add_mul] at e0
          have hget : ∀ i, i < len → (rng b.els off len).getD i .junk = b.els.getD (off + i) .junk := by
            intro i hi'
            rw [rng_eq]
            simp only [List.getD_eq_getElem?_getD]
            rw [List.getElem?_take, if_pos hi', List.getElem?_drop]
          have hget2 : ∀ i, i < len → ((rng b.els off len).map (deepE m)).getD i .junk = deepE m (b.els.getD (off + i) .junk) := by
            intro i hi'
            rw [← hget i hi']
            simp only [List.getD_eq_getElem?_getD, List.getElem?_map]
            rw [List.getElem?_eq_getElem (by omega)]
            rfl
          have := Rep.seq (w := w) (Y := X) (μ := Mu.none) (sz := b.sz) (l := (rng b.els off len).map (deepE m)) (full := false) (b := g) (off := l0 + off * b.sz) (cap := cap) (hi.out g ⟨id, _, n, hm, rfl⟩) hw (by rw [hl2]; exact hc) (fun h => by cases h)
            (by rw [hl2]; omega) (by rw [hl2]; omega) (fun i hi' => by rw [hl2] at hi'; rw [hget2 i hi', deepE_width]; exact (hr (off + i) (by omega)).1)
            (fun j hj1 hj2 => h1 j (by rw [hl2] at hj2; omega)) (fun i hi' => by
              rw [hl2] at hi'
              have h3 := deepEs_get hes (i := i) (by rw [hl]; exact hi')
              rw [hget i hi'] at h3
              rw [hget2 i hi', deepE_elemVal]
              have := (hr (off + i) (by omega)).2
              rw [hvar] at this
              simp only [if_true] at this
              rw [Nat.add_assoc, ← Nat.add_mul]
              exact deepE_rep this hi h3)
          rw [hl2] at this
          exact this
  | _ => exact rep_snap h (fun b hy hx => hy (.inl hx)) hi ho

section
variable {P : Program} {T : TT} {B : Base} {w : World} {a : Act} {s : St}

/-- A call that sees the boxes as immutable lists, with a result that holds no address. -/
theorem deep_wp {o : Oper} (hrel : Rel B w a s) {f : Operand} {args : Array Operand} {ts : Array TypeId} (ho : o.op = .call ⟨.value f, args, ts⟩) (hf : firms s.env (firm o.op)) {g : FuncId} {as : List AV}
    (htgt : tgt (st (ev s.env f)) (nrmL T ts.toList (args.toList.map fun x => st (ev s.env x))) = some (g, as)) {r : AV} (hc : CallP P g (deepL s.mem as) r) (hsn : deepOKL s.mem as) (hfl : flat r = true)
    (hd : ∀ k, o.dst = some k → k < B.N) {next : Act → World → Prop} {Q : Exit → Act → World → Prop} (hk : ∀ a' w', Rel B w' a' (s.app o.dst r []) → next a' w') : o.wp P a w next Q := by
  obtain ⟨μ, h⟩ := hrel
  refine call_wp h ho hf htgt hc.1 fun vs hsz hall => ?_
  have := hc.2 w B.X vs (fun b hx => Nat.lt_of_lt_of_le (h.base b hx).1 h.ext.size) (by rw [deepL_length]; exact hsz) (fun i hi => by
    rw [deepL_length] at hi
    rw [deepL_get hi]
    exact rep_deep (hall i hi) h.inv (deepOKL_get hsn hi))
  refine Calls.mono this ?_
  rintro e w'' ⟨v, rfl, hg, hrep⟩
  exact ⟨v, rfl, hk _ _ ⟨μ, RelM.app (up := []) (h.grows hg) hd (hrep.flat _ hfl)⟩⟩
/-- The same with two results, the first of which the caller owns. -/
theorem deep_wpT {o : Oper} (hrel : Rel B w a s) {f : Operand} {args : Array Operand} {ts : Array TypeId} (ho : o.op = .call ⟨.value f, args, ts⟩) (hf : firms s.env (firm o.op)) {g : FuncId} {as : List AV}
    (htgt : tgt (st (ev s.env f)) (nrmL T ts.toList (args.toList.map fun x => st (ev s.env x))) = some (g, as)) {sz : Nat} {els : List AV} {u : Value} (hc : CallT P g (deepL s.mem as) sz els u) (hsn : deepOKL s.mem as)
    (hfl : ∀ i, i < els.length → flat (els.getD i .junk) = true) {d : Nat} (hd : d < B.N) (hdst : o.dst = some d) {next : Act → World → Prop} {Q : Exit → Act → World → Prop}
    (hk : ∀ a' w', Rel B w' a' (s.app (some d) (.tup [.sl d (nver s.mem d) 0 els.length, .raw u]) [(d, some ⟨sz, els, nver s.mem d, false⟩)]) → next a' w') : o.wp P a w next Q := by
  obtain ⟨μ, h⟩ := hrel
  obtain ⟨hc1, hu, hc2⟩ := hc
  refine call_wp h ho hf htgt hc1 fun vs hsz hall => ?_
  have := hc2 w B.X vs (fun b hx => Nat.lt_of_lt_of_le (h.base b hx).1 h.ext.size) (by rw [deepL_length]; exact hsz) (fun i hi => by
    rw [deepL_length] at hi
    rw [deepL_get hi]
    exact rep_deep (hall i hi) h.inv (deepOKL_get hsn hi))
  refine Calls.mono this ?_
  rintro e w'' ⟨v, rfl, hg, hown⟩
  obtain ⟨μ', hr, hx⟩ := own_box h hg hown (.inr hfl) d
  refine ⟨_, rfl, hk _ _ ⟨μ', ?_⟩⟩
  rw [hdst]
  refine hr.set hd (.tup rfl fun i hi => ?_)
  match i, hi with
  | 0, _ => exact hx
  | 1, _ => exact .raw hu
end
end Go.Abs
end
