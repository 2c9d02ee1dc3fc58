/- Part 3 of the proof: the value layer and the contracts of the functions that the statement reaches; proved without conditions beyond those each theorem states. -/
import Derived.Orders
import Derived.WalkSpells
import Derived.Test.YtkhddecnllcaiaaV2
set_option linter.unusedSimpArgs false
set_option linter.unusedVariables false

section
/- The value layer, part 32 (between 26 and 16): boxes that are lent under other names. -/
namespace Go.Abs

mutual
/-- Other names for boxes. -/
def renA (f : Nat → Nat → Option (Nat × Nat)) : AV → AV
  | .sl i ver off len => match f i ver with | some (j, u) => .sl j u off len | none => .junk
  | .pt i ver idx o => match f i ver with | some (j, u) => .pt j u idx o | none => .junk
  | .mp i ver => match f i ver with | some (j, u) => .mp j u | none => .junk
  | .agg l => .agg (renL f l)
  | .tup l => .tup (renL f l)
  | .fn g p q => .fn g (renL f p) (renL f q)
  | .maybe g a => .maybe g (renA f a)
  | .raw v => .raw v
  | .seq sz l full => .seq sz l full
  | .ipt e o => .ipt e o
  | .map l => .map l
  | .junk => .junk
def renL (f : Nat → Nat → Option (Nat × Nat)) : List AV → List AV
  | [] => []
  | a :: l => renA f a :: renL f l
end

theorem renL_length {f : Nat → Nat → Option (Nat × Nat)} : ∀ {l : List AV}, (renL f l).length = l.length
  | [] => rfl
  | a :: l => by simp [renL, renL_length]
theorem renL_get {f : Nat → Nat → Option (Nat × Nat)} : ∀ {l : List AV} {i : Nat}, i < l.length → (renL f l).getD i .junk = renA f (l.getD i .junk)
  | a :: l, 0, _ => by simp [renL]
  | a :: l, i + 1, h => by simpa [renL] using renL_get (l := l) (i := i) (by simpa using h)
theorem renA_width {f : Nat → Nat → Option (Nat × Nat)} (a : AV) : (renA f a).width = a.width := by
  cases a with
  | agg l => simp only [renA, AV.width, renL_length]
  | sl i ver off len => simp only [renA]; split <;> rfl
  | pt i ver idx o => simp only [renA]; split <;> rfl
  | mp i ver => simp only [renA]; split <;> rfl
  | _ => simp only [renA, AV.width]
theorem renA_elemVal {f : Nat → Nat → Option (Nat × Nat)} (a : AV) (sz : Nat) (c : Array Value) (o : Nat) : elemVal (renA f a) sz c o = elemVal a sz c o := by
  cases a with
  | agg l => simp only [renA, elemVal]
  | sl i ver off len => simp only [renA]; split <;> rfl
  | pt i ver idx o => simp only [renA]; split <;> rfl
  | mp i ver => simp only [renA]; split <;> rfl
  | _ => simp only [renA, elemVal]

/-- The names lead to the same places. -/
def Leads (f : Nat → Nat → Option (Nat × Nat)) (μ μ' : Mu) : Prop :=
  ∀ i ver j u, f i ver = some (j, u) → ∃ l l', μ i = some l ∧ l.ver = ver ∧ μ' j = some l' ∧ l'.ver = u ∧ l'.sz = l.sz ∧ l'.base = l.base ∧ l'.blk = l.blk

theorem ren_rep {w : World} {Y : Nat → Prop} {f : Nat → Nat → Option (Nat × Nat)} {μ0 μ' : Mu} (hf : Leads f μ0 μ') {μ : Mu} {a : AV} {v : Value} (h : Rep w Y μ a v) : μ = μ0 → Rep w Y μ' (renA f a) v := by
  induction h with
  | raw h => intro _; simp only [renA]; exact .raw h
  | agg h0 h1 h ih =>
    intro e
    simp only [renA]
    refine .agg (by rw [renL_length]; exact h0) (fun i hi' => h1 i (by rwa [renL_length] at hi')) (fun i hi' => ?_)
    rw [renL_length] at hi'
    rw [renL_get hi']
    exact ih i hi' e
  | tup h0 h ih =>
    intro e
    simp only [renA]
    refine .tup (by rw [renL_length]; exact h0) (fun i hi' => ?_)
    rw [renL_length] at hi'
    rw [renL_get hi']
    exact ih i hi' e
  | nil => intro _; simp only [renA]; exact .nil
  | seq hY hb hc hf hbig hfit hw h1 h ih => intro _; simp only [renA]; exact .seq hY hb hc hf hbig hfit hw h1 h
  | ipt hY hb hfit h1 h ih => intro _; simp only [renA]; exact .ipt hY hb hfit h1 h
  | pt hm hv hb hz =>
    rename_i μ i ver idx sub loc g n
    intro e; subst e
    simp only [renA]
    split
    · rename_i j u hj
      obtain ⟨l, l', h1, h2, h3, h4, h5, h6, h7⟩ := hf _ _ _ _ hj
      rw [hm] at h1; cases h1
      rw [← h5, ← h6]
      exact .pt h3 h4 (h7.trans hb) (by rw [h5]; exact hz)
    · exact .junk
  | ptOld hm hv =>
    rename_i μ i ver idx sub loc v
    intro e; subst e
    simp only [renA]
    split
    · rename_i j u hj
      obtain ⟨l, l', h1, h2, h3, h4, h5, h6, h7⟩ := hf _ _ _ _ hj
      rw [hm] at h1; cases h1
      omega
    · exact .junk
  | slNil hm hv =>
    rename_i μ i ver off loc p
    intro e; subst e
    simp only [renA]
    split
    · rename_i j u hj
      obtain ⟨l, l', h1, h2, h3, h4, h5, h6, h7⟩ := hf _ _ _ _ hj
      exact .slNil h3 h4
    · exact .junk
  | sl hm hv hb hc hfit hz =>
    rename_i μ i ver off len cap loc g n
    intro e; subst e
    simp only [renA]
    split
    · rename_i j u hj
      obtain ⟨l, l', h1, h2, h3, h4, h5, h6, h7⟩ := hf _ _ _ _ hj
      rw [hm] at h1; cases h1
      rw [← h5, ← h6]
      exact .sl h3 h4 (h7.trans hb) hc (by rw [h5, h6]; exact hfit) (by rw [h5]; exact hz)
    · exact .junk
  | slOld hm hv =>
    rename_i μ i ver off len loc v
    intro e; subst e
    simp only [renA]
    split
    · rename_i j u hj
      obtain ⟨l, l', h1, h2, h3, h4, h5, h6, h7⟩ := hf _ _ _ _ hj
      rw [hm] at h1; cases h1
      omega
    · exact .junk
  | mp hm hv hb hz =>
    rename_i μ i ver loc g n
    intro e; subst e
    simp only [renA]
    split
    · rename_i j u hj
      obtain ⟨l, l', h1, h2, h3, h4, h5, h6, h7⟩ := hf _ _ _ _ hj
      rw [hm] at h1; cases h1
      exact .mp h3 h4 (h7.trans hb) (by rw [h5]; exact hz)
    · exact .junk
  | mpOld hm hv =>
    rename_i μ i ver loc v
    intro e; subst e
    simp only [renA]
    split
    · rename_i j u hj
      obtain ⟨l, l', h1, h2, h3, h4, h5, h6, h7⟩ := hf _ _ _ _ hj
      rw [hm] at h1; cases h1
      omega
    · exact .junk
  | map hY hb hs hbig h ih => intro _; simp only [renA]; exact .map hY hb hs hbig h
  | fn h0 ht h k ih ik =>
    intro e
    simp only [renA]
    refine .fn (by rw [renL_length]; exact h0) (by rw [renL_length]; exact ht) (fun i hi' => ?_) (fun i hi' => ?_)
    · rw [renL_length] at hi'; rw [renL_get hi']; exact ih i hi' e
    · rw [renL_length] at hi'; rw [renL_get hi']; exact ik i hi' e
  | maybe h0 h ih => intro e; simp only [renA]; exact .maybe h0 fun g => ih g e
  | junk => intro _; simp only [renA]; exact .junk

/-- A box and its name in the callee: its number and version here, its number there (where its version is 0). -/
abbrev Names := List (Nat × Nat × Nat)
def upN : Names → Nat → Nat → Option (Nat × Nat)
  | [], _, _ => none
  | (a, b, c) :: l, i, v => if a = i ∧ b = v then some (c, 0) else upN l i v
def dnO : Names → Nat → Option (Nat × Nat)
  | [], _ => none
  | (a, b, c) :: l, j => if c = j then some (a, b) else dnO l j
def dnN (σ : Names) (j u : Nat) : Option (Nat × Nat) := if u = 0 then dnO σ j else none
def namesOK (m : List (Nat × Option Box)) : Names → Prop
  | [] => True
  | (a, b, c) :: l => (match find m a with | some x => x.ver = b | none => False) ∧ (l.all fun p => decide (p.1 ≠ a) && decide (p.2.2 ≠ c)) = true ∧ namesOK m l
def lendM (σ : Names) (m : List (Nat × Option Box)) : Names → List (Nat × Option Box)
  | [] => []
  | (a, _, c) :: l => (c, (find m a).map fun x => ⟨x.sz, if x.var then renL (upN σ) x.els else x.els, 0, x.var⟩) :: lendM σ m l
def backM (σ : Names) (m' : List (Nat × Option Box)) : Names → List (Nat × Option Box)
  | [] => []
  | (a, b, c) :: l => (a, (find m' c).map fun x => ⟨x.sz, if x.var then renL (dnN σ) x.els else x.els, b, x.var⟩) :: backM σ m' l

theorem upN_mem : ∀ {σ : Names} {i v : Nat} {x : Nat × Nat}, upN σ i v = some x → ∃ c, (i, v, c) ∈ σ ∧ x = (c, 0)
  | (a, b, c) :: l, i, v, x, h => by
    simp only [upN] at h
    split at h
    · rename_i e
      obtain ⟨rfl, rfl⟩ := e
      cases h
      exact ⟨c, by simp, rfl⟩
    · obtain ⟨c', h1, h2⟩ := upN_mem h
      exact ⟨c', by simp [h1], h2⟩
theorem dnO_mem : ∀ {σ : Names} {j : Nat} {x : Nat × Nat}, dnO σ j = some x → (x.1, x.2, j) ∈ σ
  | (a, b, c) :: l, j, x, h => by
    simp only [dnO] at h
    split at h
    · rename_i e
      subst e
      cases h
      simp
    · have := dnO_mem h
      simp [this]
theorem mem_dnO {m : List (Nat × Option Box)} : ∀ {σ : Names}, namesOK m σ → ∀ {a b c : Nat}, (a, b, c) ∈ σ → dnO σ c = some (a, b)
  | (a0, b0, c0) :: l, h, a, b, c, hm => by
    obtain ⟨_, h2, h3⟩ := h
    simp only [dnO]
    rcases List.mem_cons.1 hm with e | hm
    · cases e
      rw [if_pos rfl]
    · have := List.all_eq_true.1 h2 _ hm
      simp only [Bool.and_eq_true, decide_eq_true_eq] at this
      rw [if_neg (fun e => this.2 e.symm)]
      exact mem_dnO h3 hm
theorem names_mem {m : List (Nat × Option Box)} : ∀ {σ : Names}, namesOK m σ → ∀ {a b c : Nat}, (a, b, c) ∈ σ → ∃ x, find m a = some x ∧ x.ver = b
  | (a0, b0, c0) :: l, h, a, b, c, hm => by
    obtain ⟨h1, _, h3⟩ := h
    rcases List.mem_cons.1 hm with e | hm
    · cases e
      split at h1
      · rename_i x hx; exact ⟨x, hx, h1⟩
      · exact h1.elim
    · exact names_mem h3 hm
theorem names_one {m : List (Nat × Option Box)} : ∀ {σ : Names}, namesOK m σ → ∀ {a b c b' c' : Nat}, (a, b, c) ∈ σ → (a, b', c') ∈ σ → b = b' ∧ c = c'
  | (a0, b0, c0) :: l, h, a, b, c, b', c', hm, hm' => by
    obtain ⟨_, h2, h3⟩ := h
    rcases List.mem_cons.1 hm with e | hm
    · cases e
      rcases List.mem_cons.1 hm' with e | hm'
      · cases e; exact ⟨rfl, rfl⟩
      · have := List.all_eq_true.1 h2 _ hm'
        simp at this
    · rcases List.mem_cons.1 hm' with e | hm'
      · cases e
        have := List.all_eq_true.1 h2 _ hm
        simp at this
      · exact names_one h3 hm hm'
theorem find_lendM {σ0 : Names} {m : List (Nat × Option Box)} : ∀ (σ : Names) (j : Nat), find (lendM σ0 m σ) j = (dnO σ j).bind fun p => (find m p.1).map fun x => ⟨x.sz, if x.var then renL (upN σ0) x.els else x.els, 0, x.var⟩
  | [], j => rfl
  | (a, b, c) :: l, j => by
    simp only [lendM, find, dnO]
    by_cases e : j = c
    · rw [if_pos e, if_pos e.symm]; rfl
    · rw [if_neg e, if_neg (fun h => e h.symm)]
      exact find_lendM l j
/-- The name in the callee. -/
def upI : Names → Nat → Option (Nat × Nat)
  | [], _ => none
  | (a, b, c) :: l, i => if a = i then some (b, c) else upI l i
theorem upI_mem : ∀ {σ : Names} {i : Nat} {x : Nat × Nat}, upI σ i = some x → (i, x.1, x.2) ∈ σ
  | (a, b, c) :: l, i, x, h => by
    simp only [upI] at h
    split at h
    · rename_i e
      subst e
      cases h
      simp
    · have := upI_mem h
      simp [this]
theorem upI_none : ∀ {σ : Names} {i b c : Nat}, upI σ i = none → (i, b, c) ∉ σ
  | [], _, _, _, _ => by simp
  | (a0, b0, c0) :: l, i, b, c, h => by
    simp only [upI] at h
    split at h
    · cases h
    · rename_i e
      intro hm
      rcases List.mem_cons.1 hm with e2 | hm
      · cases e2; exact e rfl
      · exact upI_none h hm
theorem find_backM {σ0 : Names} {m' m : List (Nat × Option Box)} : ∀ (σ : Names) (i : Nat), find (backM σ0 m' σ ++ m) i = match upI σ i with
    | some p => (find m' p.2).map fun x => ⟨x.sz, if x.var then renL (dnN σ0) x.els else x.els, p.1, x.var⟩
    | none => find m i
  | [], i => rfl
  | (a, b, c) :: l, i => by
    simp only [backM, List.cons_append, find, upI]
    by_cases e : i = a
    · rw [if_pos e, if_pos e.symm]
    · rw [if_neg e, if_neg (fun h => e h.symm)]
      exact find_backM l i

/-- The contract of a function to which boxes are lent. -/
def CallB (P : Program) (f : FuncId) (as : List AV) (m : List (Nat × Option Box)) (r : AV) (m' : List (Nat × Option Box)) : Prop :=
  Enter P f ∧ ∀ (w : World) (X : Nat → Prop) (μ : Mu) (vs : Array Value), (∀ b, X b → b < w.heap.size) → Inv w X μ m → (∀ id l, μ id = some l → l.ver = 0) → vs.size = as.length →
    (∀ i, i < as.length → Rep w (Yof X μ) μ (as.getD i .junk) (vs.getD i undef)) →
    Calls P f vs w fun e w' => ∃ v, e = .returned v ∧ Ext w w' (blks μ) ∧ Inv w' X μ m' ∧ Rep w' (Yof X μ) μ r v

section
variable {P : Program} {T : TT} {B : Base} {w : World} {a : Act} {s : St}

def muN (σ : Names) (μ : Mu) : Mu := fun j => (dnO σ j).bind fun p => (μ p.1).map fun l => ⟨0, l.sz, l.base, l.blk⟩
theorem muN_some {σ : Names} {μ : Mu} {j : Nat} {l' : Loc} (h : muN σ μ j = some l') : ∃ i v l, (i, v, j) ∈ σ ∧ μ i = some l ∧ l' = ⟨0, l.sz, l.base, l.blk⟩ := by
  unfold muN at h
  cases hd : dnO σ j with
  | none => rw [hd] at h; cases h
  | some p =>
    rw [hd] at h
    simp only [Option.bind_some, Option.map_eq_some_iff] at h
    obtain ⟨l, hl, rfl⟩ := h
    exact ⟨p.1, p.2, l, dnO_mem hd, hl, rfl⟩
theorem muN_of {σ : Names} {m : List (Nat × Option Box)} (hσ : namesOK m σ) {μ : Mu} {i v j : Nat} {l : Loc} (h : (i, v, j) ∈ σ) (hl : μ i = some l) : muN σ μ j = some ⟨0, l.sz, l.base, l.blk⟩ := by
  unfold muN
  rw [mem_dnO hσ h]
  simp [hl]
theorem blks_muN {σ : Names} {μ : Mu} {g : Nat} (h : blks (muN σ μ) g) : ∃ i v j l n, (i, v, j) ∈ σ ∧ μ i = some l ∧ l.blk = some (g, n) := by
  obtain ⟨j, l', n, hm, hb⟩ := h
  obtain ⟨i, v, l, h1, h2, rfl⟩ := muN_some hm
  exact ⟨i, v, j, l, n, h1, h2, hb⟩

/-- A call to which boxes are lent. -/
theorem boxes_wp {o : Oper} (hrel : Rel B w a s) {f : Operand} {args : Array Operand} {ts : Array TypeId} (ho : o.op = .call ⟨.value f, args, ts⟩) (hf : firms s.env (firm o.op)) {g : FuncId} {as : List AV}
    (htgt : tgt (st (ev s.env f)) (nrmL T ts.toList (args.toList.map fun x => st (ev s.env x))) = some (g, as)) (σ : Names) (hσ : namesOK s.mem σ) {r : AV} {m' : List (Nat × Option Box)}
    (hc : CallB P g (renL (upN σ) as) (lendM σ s.mem σ) r m') (hd : ∀ k, o.dst = some k → k < B.N) {next : Act → World → Prop} {Q : Exit → Act → World → Prop}
    (hk : ∀ a' w', Rel B w' a' (s.app o.dst (renA (dnN σ) r) (backM σ m' σ)) → next a' w') : o.wp P a w next Q := by
  obtain ⟨μ, h⟩ := hrel
  refine call_wp h ho hf htgt hc.1 fun vs hsz hall => ?_
  have hμ : ∀ {i v j : Nat}, (i, v, j) ∈ σ → ∃ b l, find s.mem i = some b ∧ b.ver = v ∧ μ i = some l ∧ l.ver = v ∧ l.sz = b.sz ∧ Holds w (Yof B.X μ) μ l b := by
    intro i v j hm
    obtain ⟨b, hb, hv⟩ := names_mem hσ hm
    obtain ⟨l, h1, h2, h3, h4⟩ := h.inv.box i b hb
    exact ⟨b, l, hb, hv, h1, by rw [h2, hv], h3, h4⟩
  let X : Nat → Prop := fun q => Yof B.X μ q ∧ ¬ blks (muN σ μ) q
  have hsub : ∀ q, blks (muN σ μ) q → blks μ q := by
    intro q hq
    obtain ⟨i, v, j, l, n, _, h2, h3⟩ := blks_muN hq
    exact ⟨i, l, n, h2, h3⟩
  have hY : ∀ q, Yof X (muN σ μ) q ↔ Yof B.X μ q := by
    intro q
    constructor
    · rintro (hx | hx)
      · exact hx.1
      · exact .inr (hsub q hx)
    · intro hy
      by_cases e : blks (muN σ μ) q
      · exact .inr e
      · exact .inl ⟨hy, e⟩
  have hup : Leads (upN σ) μ (muN σ μ) := by
    intro i ver j u hj
    obtain ⟨c, hm, e⟩ := upN_mem hj
    cases e
    obtain ⟨b, l, _, _, h3, h4, _, _⟩ := hμ hm
    exact ⟨l, _, h3, h4, muN_of hσ hm h3, rfl, rfl, rfl, rfl⟩
  have hdn : Leads (dnN σ) (muN σ μ) μ := by
    intro j u i ver hj
    unfold dnN at hj
    split at hj
    · rename_i e
      subst e
      have hm := dnO_mem hj
      obtain ⟨b, l, _, _, h3, h4, _, _⟩ := hμ hm
      exact ⟨_, l, muN_of hσ hm h3, rfl, h3, h4, rfl, rfl, rfl⟩
    · cases hj
  have hkeep : ∀ q, ¬ Yof B.X μ q → q < w.heap.size → ¬ Yof X (muN σ μ) q ∧ w.heap[q]? = w.heap[q]? := fun q hq _ => ⟨fun hy => hq ((hY q).1 hy), rfl⟩
  have hinv : Inv w X (muN σ μ) (lendM σ s.mem σ) := by
    refine ⟨fun j hj => ?_, fun j b' hj => ?_, fun j j' l l' g n n' h1 h2 h3 h4 => ?_, fun g hg hx => hx.2 hg⟩
    · rw [find_lendM] at hj
      unfold muN
      cases hd : dnO σ j with
      | none => rfl
      | some p =>
        rw [hd] at hj
        obtain ⟨b, l, hb, _⟩ := hμ (dnO_mem hd)
        simp [hb] at hj
    · rw [find_lendM] at hj
      cases hd : dnO σ j with
      | none => rw [hd] at hj; cases hj
      | some p =>
        rw [hd] at hj
        have hm := dnO_mem hd
        obtain ⟨b, l, hb, hv, hml, hlv, hls, hh⟩ := hμ hm
        simp only [Option.bind_some, hb, Option.map_some, Option.some.injEq] at hj
        subst hj
        refine ⟨_, muN_of hσ hm hml, rfl, hls, ?_⟩
        unfold Holds at hh ⊢
        have hlen : (if b.var = true then renL (upN σ) b.els else b.els).length = b.els.length := by split <;> simp [renL_length]
        refine ⟨by dsimp only; rw [hlen]; exact hh.1, ?_⟩
        have h2 := hh.2
        dsimp only
        cases hbk : l.blk with
        | none =>
          rw [hbk] at h2
          exact List.eq_nil_of_length_eq_zero (by rw [hlen, h2]; rfl)
        | some gn =>
          obtain ⟨g', n'⟩ := gn
          rw [hbk] at h2
          refine ⟨fun hz => ?_, fun hz => ?_⟩
          · obtain ⟨c, el, hw, hcs, hfit, h1, hr⟩ := h2.1 hz
            refine ⟨c, el, hw, hcs, by rw [hlen]; exact hfit, h1, fun k hk => ?_⟩
            rw [hlen] at hk
            obtain ⟨r1, r2⟩ := hr k hk
            cases hvr : b.var with
            | true =>
              rw [hvr] at r2
              simp only [if_true] at r2 ⊢
              rw [renL_get hk, renA_width, renA_elemVal]
              exact ⟨r1, (ren_rep hup r2 rfl).mono hkeep (Mu.later.refl _)⟩
            | false =>
              rw [hvr] at r2
              simp only [Bool.false_eq_true, if_false] at r2 ⊢
              exact ⟨r1, r2.mono hkeep (Mu.later.refl _)⟩
          · obtain ⟨hv0, es, clock, hw, hs, hr⟩ := h2.2 hz
            simp only [hv0, Bool.false_eq_true, if_false]
            exact ⟨trivial, es, clock, hw, hs, fun i hi => (hr i hi).mono hkeep (Mu.later.refl _)⟩
    · obtain ⟨i, v, l1, m1, e1, rfl⟩ := muN_some h1
      obtain ⟨i', v', l2, m2, e2, rfl⟩ := muN_some h2
      have := h.inv.apart i i' l1 l2 g n n' e1 e2 h3 h4
      subst this
      exact (names_one hσ m1 m2).2
  have := hc.2 w X (muN σ μ) vs (fun q hq => by
    rcases hq.1 with hx | hx
    · exact Nat.lt_of_lt_of_le (h.base q hx).1 h.ext.size
    · exact blks.lt h.inv hx) hinv (fun id l hl => by
    obtain ⟨_, _, _, _, _, rfl⟩ := muN_some hl
    rfl) (by rw [renL_length]; exact hsz) (fun i hi => by
    rw [renL_length] at hi
    rw [renL_get hi]
    exact (ren_rep hup (hall i hi) rfl).mono hkeep (Mu.later.refl _))
  refine Calls.mono this ?_
  rintro e w'' ⟨v, rfl, hext, hinv', hret⟩
  have hback : ∀ q, ¬ Yof X (muN σ μ) q → q < w''.heap.size → ¬ Yof B.X μ q ∧ w''.heap[q]? = w''.heap[q]? := fun q hq _ => ⟨fun hy => hq ((hY q).2 hy), rfl⟩
  have hold : ∀ q, ¬ Yof B.X μ q → q < w.heap.size → ¬ Yof B.X μ q ∧ w''.heap[q]? = w.heap[q]? := fun q hq hlt => ⟨hq, hext.old q hlt fun hb => hq (.inr (hsub q hb))⟩
  have hrel : RelM B w'' a ⟨s.env, backM σ m' σ ++ s.mem⟩ μ := by
    refine ⟨h.defers, h.size, ⟨fun i hi => ?_, fun i b' hi => ?_, h.inv.apart, h.inv.out⟩, fun t => (h.env t).mono hold (Mu.later.refl _), h.ext.trans hext fun g hg hbl => ?_, h.mine, h.base, h.kept⟩
    · dsimp only at hi
      rw [find_backM] at hi
      cases hu : upI σ i with
      | none => rw [hu] at hi; exact h.inv.no i hi
      | some p =>
        rw [hu] at hi
        simp only [Option.map_eq_none_iff] at hi
        have hm := upI_mem hu
        obtain ⟨b, l, _, _, h3, _⟩ := hμ hm
        have h4 := hinv'.no _ hi
        rw [muN_of hσ hm h3] at h4
        cases h4
    · dsimp only at hi
      rw [find_backM] at hi
      cases hu : upI σ i with
      | none =>
        rw [hu] at hi
        obtain ⟨l, h1, h2, h3, h4⟩ := h.inv.box i b' hi
        refine ⟨l, h1, h2, h3, h4.mono hold (Mu.later.refl _) fun g n hg => hext.old g (blks.lt h.inv ⟨i, l, n, h1, hg⟩) fun hbl => ?_⟩
        obtain ⟨i', v, j, l', n', hm, e1, e2⟩ := blks_muN hbl
        have := h.inv.apart i i' l l' g n n' h1 e1 hg e2
        subst this
        exact upI_none hu hm
      | some p =>
        rw [hu] at hi
        simp only [Option.map_eq_some_iff] at hi
        obtain ⟨x, hx, rfl⟩ := hi
        have hm := upI_mem hu
        obtain ⟨b, l, hb, hv, hml, hlv, hls, _⟩ := hμ hm
        obtain ⟨l', e1, e2, e3, hh⟩ := hinv'.box _ x hx
        rw [muN_of hσ hm hml] at e1
        cases e1
        dsimp only at e2 e3
        refine ⟨l, hml, hlv, e3, ?_⟩
        unfold Holds at hh ⊢
        have hlen : (if x.var = true then renL (dnN σ) x.els else x.els).length = x.els.length := by split <;> simp [renL_length]
        refine ⟨by dsimp only; rw [hlen]; exact hh.1, ?_⟩
        have h2 := hh.2
        dsimp only at h2 ⊢
        cases hbk : l.blk with
        | none =>
          rw [hbk] at h2
          exact List.eq_nil_of_length_eq_zero (by rw [hlen, h2]; rfl)
        | some gn =>
          obtain ⟨g', n'⟩ := gn
          rw [hbk] at h2
          refine ⟨fun hz => ?_, fun hz => ?_⟩
          · obtain ⟨c, el, hw, hcs, hfit, h1, hr⟩ := h2.1 hz
            refine ⟨c, el, hw, hcs, by rw [hlen]; exact hfit, h1, fun k hk => ?_⟩
            rw [hlen] at hk
            obtain ⟨r1, r2⟩ := hr k hk
            cases hvr : x.var with
            | true =>
              rw [hvr] at r2
              simp only [if_true] at r2 ⊢
              rw [renL_get hk, renA_width, renA_elemVal]
              exact ⟨r1, (ren_rep hdn r2 rfl).mono hback (Mu.later.refl _)⟩
            | false =>
              rw [hvr] at r2
              simp only [Bool.false_eq_true, if_false] at r2 ⊢
              exact ⟨r1, r2.mono hback (Mu.later.refl _)⟩
          · obtain ⟨hv0, es, clock, hw, hs, hr⟩ := h2.2 hz
            simp only [hv0, Bool.false_eq_true, if_false]
            exact ⟨trivial, es, clock, hw, hs, fun i hi => (hr i hi).mono hback (Mu.later.refl _)⟩
    · rcases h.mine g (hsub g hbl) with ho | hge
      · exact ho
      · omega
  exact ⟨v, rfl, hk _ _ ⟨μ, hrel.app hd ((ren_rep hdn hret rfl).mono hback (Mu.later.refl _))⟩⟩
end
end Go.Abs
end

section
/- The value layer, part 16: guards; on what a step hangs. -/
namespace Go.Abs

/-- An operation of a region, its guard by the slot. -/
def aoper (ops : Array Oper) (o : Oper) : Option AOper :=
  match o.guard with
  | none => some ⟨o.dst, o.op, o.type, none⟩
  | some (j, want) => match (ops[j]?).bind (·.dst) with
    | some t => some ⟨o.dst, o.op, o.type, some (t, want)⟩
    | none => none

section
variable {P : Program} {T : TT} (hT : TOK P T) {B : Base} {w : World} {a : Act} {s : St}

theorem yielded_guard {ops : Array Oper} {j t : Nat} {want c : Bool} (ht : (ops[j]?).bind (·.dst) = some t) {μ : Mu} (h : RelM B w a s μ) (hg : guardOf (get s.env t) want = some c) :
    (yielded ops a.tmps j == some want) = c := by
  have hr := h.env t
  have key : ∀ b, a.tmps.getD t undef = .bool b → a.tmps[t]? = some (.bool b) := by
    intro b hb
    rw [Array.getD_eq_getD_getElem?] at hb
    cases hq : a.tmps[t]? with
    | none => rw [hq] at hb; simp [undef] at hb
    | some v => rw [hq] at hb; simp at hb; rw [hb]
  unfold guardOf at hg
  unfold yielded
  rw [ht]
  simp only [Option.bind_some]
  split at hg
  · rename_i b hget
    rw [hget] at hr
    have := key b hr.one.1
    rw [this]
    simpa using hg
  · rename_i p b hget
    rw [hget] at hr
    cases hr with
    | maybe h0 h1 =>
      cases p with
      | true =>
        have := key b (h1 rfl).one.1
        rw [this]
        simpa using hg
      | false =>
        have h2 := h0 rfl
        have hnb : ∀ b, a.tmps[t]? ≠ some (.bool b) := by
          intro b hb
          rw [Array.getD_eq_getD_getElem?, hb] at h2
          simp [undef] at h2
        simp at hg
        subst hg
        cases hq : a.tmps[t]? with
        | none => rfl
        | some v =>
          cases v with
          | bool b => exact absurd hq (hnb b)
          | _ => rfl
  · cases hg

include hT in
/-- An operation of a region, guarded or not. -/
theorem steps_wpOp {O : List Nat} {ops : Array Oper} {i : Nat} {o : Oper} {ao : AOper} (hi : ops[i]? = some o) (hao : aoper ops o = some ao) (hd : ∀ k, o.dst = some k → k < B.N) {v : AV} {up : List (Nat × Option Box)}
    (hrel : Rel B w a s) (hs : Steps P T O ao s.env s.mem v up) {K : Act → World → Prop} {Q : Exit → Act → World → Prop}
    (hk : ∀ w' a', Rel B w' a' (s.app o.dst v up) → K a' w') : wpOp P ops Q i K a w := by
  unfold wpOp
  rw [hi]
  simp only
  unfold aoper at hao
  unfold Region.wanted
  cases hg : o.guard with
  | none =>
    rw [hg] at hao
    simp only [Option.some.injEq] at hao
    subst hao
    simp only [if_true]
    exact .inl (stepOK_wp hT hrel hs fun w' v' μ' hrel' hrep => hk _ _ ⟨μ', hrel'.app hd hrep⟩)
  | some gw =>
    obtain ⟨j, want⟩ := gw
    rw [hg] at hao
    simp only at hao
    cases ht : (ops[j]?).bind (·.dst) with
    | none => rw [ht] at hao; cases hao
    | some t =>
      rw [ht] at hao
      simp only [Option.some.injEq] at hao
      subst hao
      simp only [Steps] at hs
      cases hc : guardOf (get s.env t) want with
      | none => rw [hc] at hs; exact hs.elim
      | some c =>
        rw [hc] at hs
        obtain ⟨x, rfl, hstep, hup⟩ := hs
        obtain ⟨μ, h⟩ := hrel
        change (if (yielded ops a.tmps j == some want) = true then _ else _)
        rw [yielded_guard ht h hc]
        cases c with
        | true =>
          simp only [if_true]
          exact .inl (stepOK_wp hT ⟨μ, h⟩ (hstep rfl) fun w' v' μ' hrel' hrep => hk _ _ ⟨μ', hrel'.app hd (.maybe (fun h => by cases h) fun _ => hrep)⟩)
        | false =>
          simp only [Bool.false_eq_true, if_false]
          have hup' : up = [] := by
            rcases hup with h | h
            · cases h
            · exact h
          subst hup'
          exact hk _ _ ⟨μ, RelM.app (up := []) h hd (.maybe (fun _ => rfl) fun h => by cases h)⟩
end

/-! ### on what a step hangs -/
def eqOn (ids : List Nat) (m m' : List (Nat × Option Box)) : Prop := ∀ id ∈ ids, find m id = find m' id

theorem nver_local {m m' : List (Nat × Option Box)} {d : Nat} (h : find m d = find m' d) : nver m d = nver m' d := by simp [nver, h]

theorem solid_local {m m' : List (Nat × Option Box)} {x : AV} (h : eqOn x.refs m m') : AV.solid m x = AV.solid m' x := by
  cases x with
  | pt id ver idx o => simp only [AV.solid]; rw [h id (by simp [AV.refs])]
  | sl id ver off len => simp only [AV.solid]; rw [h id (by simp [AV.refs])]
  | mp id ver => simp only [AV.solid]; rw [h id (by simp [AV.refs])]
  | _ => rfl

theorem nrm_refs {T : TT} {t : Nat} {x : AV} : (nrm T t x).refs = x.refs := by
  unfold nrm
  split
  · simp [AV.refs]
  · rfl

theorem elems_local {m m' : List (Nat × Option Box)} {x : AV} (h : eqOn x.refs m m') : elems m x = elems m' x := by
  cases x <;> simp only [elems]
  rw [h _ (by simp [AV.refs])]

theorem ments_local {m m' : List (Nat × Option Box)} {x : AV} (h : eqOn x.refs m m') : ments m x = ments m' x := by
  cases x <;> simp only [ments]
  rw [h _ (by simp [AV.refs])]

theorem partsOK_local {m m' : List (Nat × Option Box)} : ∀ {l : List (Nat × AV)}, (∀ p ∈ l, eqOn p.2.refs m m') → partsOK m l = partsOK m' l
  | [], _ => rfl
  | p :: l, h => by
    simp only [partsOK]
    rw [solid_local (h p (by simp)), partsOK_local (fun q hq => h q (by simp [hq]))]

theorem nrms_mem {T : TT} {k : TK} : ∀ {l : List (Nat × AV)} {p : Nat × AV}, p ∈ nrms T k l → ∃ q ∈ l, p.2.refs = q.2.refs
  | q :: l, p, h => by
    simp only [nrms, List.mem_cons] at h
    rcases h with rfl | h
    · exact ⟨q, by simp, nrm_refs⟩
    · obtain ⟨q', hq, e⟩ := nrms_mem h
      exact ⟨q', by simp [hq], e⟩

/-- The boxes that an operation can look into. -/
def isMv : Op → Bool
  | .move _ => true
  | .assign _ => true
  | _ => false
def opRefs (e : List (Nat × AV)) (op : Op) (d : Nat) : List Nat := d :: (if isMv op = true then [] else op.operands.toList.flatMap fun x => (ev e x).refs)

theorem opE_local {T : TT} {O : List Nat} {m m' : List (Nat × Option Box)} {d ty : Nat} {e e' : List (Nat × AV)} {op : Op} (he : ∀ x ∈ op.operands.toList, ev e x = ev e' x) (hm : eqOn (opRefs e op d) m m') :
    opE T O m d ty e op = opE T O m' d ty e' op := by
  have hd : find m d = find m' d := hm d (by simp [opRefs])
  by_cases hmv : isMv op = true
  · cases op with
    | move x =>
      rw [opE, opE, ← he x (by simp [Op.operands])]
      unfold moveE
      split <;> simp [nver_local hd]
    | assign x =>
      rw [opE, opE, ← he x (by simp [Op.operands])]
      unfold moveE
      split <;> simp [nver_local hd]
    | _ => cases hmv
  have hx : ∀ x ∈ op.operands.toList, eqOn (ev e x).refs m m' := fun x hx id hid => hm id (by simp only [opRefs, if_neg hmv, List.mem_cons, List.mem_flatMap]; exact .inr ⟨x, hx, hid⟩)
  have hs : ∀ x ∈ op.operands.toList, eqOn (st (ev e x)).refs m m' := fun x h => by rw [st_refs]; exact hx x h
  cases op with
  | move x =>
    rw [opE, opE, ← he x (by simp [Op.operands])]
    unfold moveE
    split <;> simp [nver_local hd]
  | assign x =>
    rw [opE, opE, ← he x (by simp [Op.operands])]
    unfold moveE
    split <;> simp [nver_local hd]
  | pick c x y => rw [opE, opE, ← he c (by simp [Op.operands]), ← he x (by simp [Op.operands]), ← he y (by simp [Op.operands])]
  | box t x =>
    rw [opE, opE, ← he x (by simp [Op.operands])]
    unfold boxE
    rw [nver_local hd, solid_local (by rw [nrm_refs]; exact hs x (by simp [Op.operands]))]
  | alloc t =>
    rw [opE, opE]
    unfold allocE
    rw [nver_local hd]
  | build t parts =>
    have hp : (parts.toList.map fun p => (p.1, st (ev e p.2))) = parts.toList.map fun p => (p.1, st (ev e' p.2)) :=
      List.map_congr_left fun p hp => by rw [he p.2 (by simp [Op.operands]; exact ⟨p.1, by simpa using hp⟩)]
    rw [opE, opE, ← hp]
    unfold buildE
    rw [partsOK_local (m := m) (m' := m') fun p hp' => by
      obtain ⟨q, hq, e1⟩ := nrms_mem hp'
      rw [e1]
      obtain ⟨q', hq', rfl⟩ := List.mem_map.1 hq
      exact hs q'.2 (by simp [Op.operands]; exact ⟨q'.1, by simpa using hq'⟩)]
  | buildSlice t len parts =>
    have hp : (parts.toList.map fun p => (p.1, st (ev e p.2))) = parts.toList.map fun p => (p.1, st (ev e' p.2)) :=
      List.map_congr_left fun p hp => by rw [he p.2 (by simp [Op.operands]; exact ⟨p.1, by simpa using hp⟩)]
    rw [opE, opE, ← hp]
    unfold sliceLitE
    split
    · rw [partsOK_local (m := m) (m' := m') fun p hp' => by
        obtain ⟨q, hq, e1⟩ := nrms_mem hp'
        rw [e1]
        obtain ⟨q', hq', rfl⟩ := List.mem_map.1 hq
        exact hs q'.2 (by simp [Op.operands]; exact ⟨q'.1, by simpa using hq'⟩), nver_local hd]
    · rfl
  | load t x =>
    rw [opE, opE, ← he x (by simp [Op.operands])]
    have h1 := hs x (by simp [Op.operands])
    cases hq : st (ev e x) <;> simp only [loadE]
    rw [hq] at h1
    rw [h1 _ (by simp [AV.refs])]
  | store t x y =>
    rw [opE, opE, ← he x (by simp [Op.operands]), ← he y (by simp [Op.operands])]
    have h1 := hs x (by simp [Op.operands])
    cases hq : st (ev e x) <;> simp only [storeE]
    rw [hq] at h1
    rw [h1 _ (by simp [AV.refs])]
    rw [solid_local (m := m) (m' := m') (by rw [nrm_refs]; exact hs y (by simp [Op.operands]))]
  | nilCheck x =>
    rw [opE, opE, ← he x (by simp [Op.operands])]
    have h1 := hs x (by simp [Op.operands])
    cases hq : st (ev e x) <;> simp only [nilE]
    rw [hq] at h1
    rw [h1 _ (by simp [AV.refs])]
  | binOp op t x y yt => rw [opE, opE, ← he x (by simp [Op.operands]), ← he y (by simp [Op.operands])]
  | unOp op t x => rw [opE, opE, ← he x (by simp [Op.operands])]
  | convert t t' x =>
    rw [opE, opE, ← he x (by simp [Op.operands])]
    unfold convX convB
    rw [elems_local (hs x (by simp [Op.operands]))]
  | makeMap t r =>
    have e1 : (r.map fun x => st (ev e x)) = r.map fun x => st (ev e' x) := by cases r with | none => rfl | some l => simp [he l (by simp [Op.operands])]
    rw [opE, opE, e1]
    unfold makeMapE
    rw [nver_local hd]
  | mapUpdate t x k v =>
    rw [opE, opE, ← he x (by simp [Op.operands]), ← he k (by simp [Op.operands]), ← he v (by simp [Op.operands])]
    have h1 := hs x (by simp [Op.operands])
    unfold mupdE
    cases tkind T t with
    | map kt et kk =>
      cases hq : st (ev e x) with
      | mp id ver =>
        rw [hq] at h1
        cases akey (st (ev e k)) with
        | none => rfl
        | some q => dsimp only; rw [h1 id (by simp [AV.refs])]
      | _ => rfl
    | _ => rfl
  | insert t x k v =>
    rw [opE, opE, ← he x (by simp [Op.operands]), ← he k (by simp [Op.operands]), ← he v (by simp [Op.operands])]
    have h1 := hs x (by simp [Op.operands])
    unfold mupdE
    cases tkind T t with
    | map kt et kk =>
      cases hq : st (ev e x) with
      | mp id ver =>
        rw [hq] at h1
        cases akey (st (ev e k)) with
        | none => rfl
        | some q => dsimp only; rw [h1 id (by simp [AV.refs])]
      | _ => rfl
    | _ => rfl
  | lookup t x k ok =>
    rw [opE, opE, ← he x (by simp [Op.operands]), ← he k (by simp [Op.operands])]
    unfold lookE
    rw [ments_local (hs x (by simp [Op.operands]))]
  | makeFunc fn f c =>
    rw [opE, opE]
    rw [List.map_congr_left (l := f.toList) (g := fun x => st (ev e' x)) fun x hx => by rw [he x (by simp [Op.operands]; exact .inl (by simpa using hx))],
      List.map_congr_left (l := c.toList) (g := fun x => st (ev e' x)) fun x hx => by rw [he x (by simp [Op.operands]; exact .inr (by simpa using hx))]]
  | makeSlice t x y =>
    rw [opE, opE, ← he x (by simp [Op.operands]), ← he y (by simp [Op.operands])]
    unfold makeE
    rw [nver_local hd]
  | slice t x lo hi mx =>
    rw [opE, opE, ← he x (by simp [Op.operands])]
    have e1 : (lo.map fun x => st (ev e x)) = lo.map fun x => st (ev e' x) := by cases lo with | none => rfl | some l => simp [he l (by simp [Op.operands])]
    have e2 : (hi.map fun x => st (ev e x)) = hi.map fun x => st (ev e' x) := by cases hi with | none => rfl | some l => simp [he l (by simp [Op.operands])]
    have e3 : (mx.map fun x => st (ev e x)) = mx.map fun x => st (ev e' x) := by cases mx with | none => rfl | some l => simp [he l (by simp [Op.operands])]
    rw [e1, e2, e3]
    have h1 := hs x (by simp [Op.operands])
    cases hq : st (ev e x) <;> simp only [sliceE]
    rw [hq] at h1
    rw [h1 _ (by simp [AV.refs])]
  | fieldAddr t x k =>
    rw [opE, opE, ← he x (by simp [Op.operands])]
    have h1 := hs x (by simp [Op.operands])
    cases hq : st (ev e x) <;> simp only [fieldE]
    rw [hq] at h1
    rw [h1 _ (by simp [AV.refs])]
  | field t x k => rw [opE, opE, ← he x (by simp [Op.operands])]
  | indexAddr t x i =>
    rw [opE, opE, ← he x (by simp [Op.operands]), ← he i (by simp [Op.operands])]
    have h1 := hs x (by simp [Op.operands])
    cases hq : st (ev e x) <;> simp only [indexE] <;> (rw [hq] at h1; rw [h1 _ (by simp [AV.refs])])
  | index t x i => rw [opE, opE, ← he x (by simp [Op.operands]), ← he i (by simp [Op.operands])]
  | extract x k => rw [opE, opE, ← he x (by simp [Op.operands])]
  | call c =>
    obtain ⟨callee, args, ts⟩ := c
    cases callee with
    | value f => rfl
    | invoke r n => rfl
    | builtin b =>
      have hl : (args.toList.map fun x => st (ev e x)) = args.toList.map fun x => st (ev e' x) :=
        List.map_congr_left fun x hx => by rw [he x (by simp [Op.operands, Call.operands]; simpa using hx)]
      have hr : ∀ y ∈ args.toList.map (fun x => st (ev e x)), eqOn y.refs m m' := by
        intro y hy
        obtain ⟨x, hx', rfl⟩ := List.mem_map.1 hy
        exact hs x (by simp [Op.operands, Call.operands]; simpa using hx')
      simp only [opE]
      rw [← hl]
      generalize args.toList.map (fun x => st (ev e x)) = xs at hr
      unfold builtinE
      split
      · rename_i t x he1
        have h1 := hr x (by simp)
        unfold lenB mlenE
        have : lenOK m x = lenOK m' x := by
          cases x <;> simp only [lenOK]
          rw [h1 _ (by simp [AV.refs])]
        rw [this, ments_local h1]
      · rename_i t t' x y he1
        have h1 := hr x (by simp)
        have h2 := hr y (by simp)
        unfold appE
        rw [elems_local h2, nver_local hd]
        cases x <;> simp only
        rw [h1 _ (by simp [AV.refs])]
      · rfl
      · rfl
      · rfl
      · rename_i t x he1
        have h1 := hr x (by simp)
        unfold clearE
        cases x <;> simp only
        rw [h1 _ (by simp [AV.refs])]
      · rename_i t t' x y he1
        have h1 := hr x (by simp)
        have h2 := hr y (by simp)
        unfold copyE
        rw [elems_local h2]
        cases x <;> simp only
        rw [h1 _ (by simp [AV.refs])]
      · rfl
  | _ => rfl

end Go.Abs
end

section
/- The value layer, part 17: a region whose order is drawn. -/
namespace Go.Abs

/-! ### a step hangs on what it looks at alone -/
def tmpsOf (op : Op) : List Nat := op.operands.toList.filterMap fun | .tmp t => some t | _ => none
def slotsOf (o : AOper) : List Nat := tmpsOf o.op ++ (match o.guard with | some (g, _) => [g] | none => [])

theorem ev_local {e e' : List (Nat × AV)} {op : Op} (h : ∀ t ∈ tmpsOf op, get e t = get e' t) : ∀ x ∈ op.operands.toList, ev e x = ev e' x := by
  intro x hx
  cases x with
  | tmp t => exact h t (List.mem_filterMap.2 ⟨.tmp t, hx, rfl⟩)
  | _ => rfl

theorem firms_local {e e' : List (Nat × AV)} : ∀ {l : List Operand}, (∀ x ∈ l, ev e x = ev e' x) → firms e l = firms e' l
  | [], _ => rfl
  | x :: l, h => by simp only [firms]; rw [h x (by simp), firms_local fun y hy => h y (by simp [hy])]

theorem firm_sub (op : Op) : ∀ x ∈ firm op, x ∈ op.operands.toList := by
  intro x hx
  unfold firm at hx
  split at hx
  · simp [Op.operands] at hx ⊢; exact .inl hx
  · simpa [Op.operands] using hx
  · simpa [Op.operands] using hx
  · exact hx

mutual
theorem snap_local {m m' : List (Nat × Option Box)} : ∀ (a : AV), eqOn a.refs m m' → snap m a = snap m' a
  | .seq _ _ _, _ => by simp [snap]
  | .sl id _ _ _, h => by simp only [snap]; rw [h id (by simp [AV.refs])]
  | .pt id _ _ _, h => by simp only [snap]; rw [h id (by simp [AV.refs])]
  | .agg l, h => by simp only [snap]; rw [snapL_local l (by simpa [AV.refs] using h)]
  | .tup l, h => by simp only [snap]; rw [snapL_local l (by simpa [AV.refs] using h)]
  | .fn f a b, h => by
    simp only [snap]
    rw [snapL_local a (fun id hid => h id (by simp [AV.refs, hid])), snapL_local b (fun id hid => h id (by simp [AV.refs, hid]))]
  | .maybe g a, h => by simp only [snap]; rw [snap_local a (by simpa [AV.refs] using h)]
  | .raw _, _ => by simp [snap]
  | .ipt _ _, _ => by simp [snap]
  | .mp id _, h => by simp only [snap]; rw [h id (by simp [AV.refs])]
  | .map _, _ => by simp [snap]
  | .junk, _ => by simp [snap]
theorem snapL_local {m m' : List (Nat × Option Box)} : ∀ (l : List AV), eqOn (AV.refsL l) m m' → snapL m l = snapL m' l
  | [], _ => by simp [snapL]
  | a :: l, h => by
    simp only [snapL]
    rw [snap_local a (fun id hid => h id (by simp [AV.refsL, hid])), snapL_local l (fun id hid => h id (by simp [AV.refsL, hid]))]
end

mutual
theorem snapOK_local {m m' : List (Nat × Option Box)} : ∀ (a : AV), eqOn a.refs m m' → snapOK m a = snapOK m' a
  | .seq _ _ _, _ => by simp [snapOK]
  | .sl id _ _ _, h => by simp only [snapOK]; rw [h id (by simp [AV.refs])]
  | .pt id _ _ _, h => by simp only [snapOK]; rw [h id (by simp [AV.refs])]
  | .agg l, h => by simp only [snapOK]; rw [snapOKL_local l (by simpa [AV.refs] using h)]
  | .tup l, h => by simp only [snapOK]; rw [snapOKL_local l (by simpa [AV.refs] using h)]
  | .fn f a b, h => by
    simp only [snapOK]
    rw [snapOKL_local a (fun id hid => h id (by simp [AV.refs, hid])), snapOKL_local b (fun id hid => h id (by simp [AV.refs, hid]))]
  | .maybe g a, h => by simp only [snapOK]; rw [snapOK_local a (by simpa [AV.refs] using h)]
  | .raw _, _ => by simp [snapOK]
  | .ipt _ _, _ => by simp [snapOK]
  | .mp id _, h => by simp only [snapOK]; rw [h id (by simp [AV.refs])]
  | .map _, _ => by simp [snapOK]
  | .junk, _ => by simp [snapOK]
theorem snapOKL_local {m m' : List (Nat × Option Box)} : ∀ (l : List AV), eqOn (AV.refsL l) m m' → snapOKL m l = snapOKL m' l
  | [], _ => by simp [snapOKL]
  | a :: l, h => by
    simp only [snapOKL]
    rw [snapOK_local a (fun id hid => h id (by simp [AV.refsL, hid])), snapOKL_local l (fun id hid => h id (by simp [AV.refsL, hid]))]
end

theorem refsL_append : ∀ (a b : List AV), AV.refsL (a ++ b) = AV.refsL a ++ AV.refsL b
  | [], b => by simp [AV.refsL]
  | x :: a, b => by simp [AV.refsL, refsL_append a b]

theorem nrmL_refs {T : TT} : ∀ {ts : List Nat} {xs : List AV}, AV.refsL (nrmL T ts xs) = AV.refsL xs
  | [], xs => by simp [nrmL]
  | t :: ts, [] => by simp [nrmL]
  | t :: ts, x :: xs => by simp [nrmL, AV.refsL, nrm_refs, nrmL_refs]

theorem mem_refsL_iff {id : Nat} : ∀ {l : List AV}, id ∈ AV.refsL l ↔ ∃ a ∈ l, id ∈ a.refs
  | [] => by simp [AV.refsL]
  | a :: l => by simp [AV.refsL, mem_refsL_iff]

/-- The boxes that an operation can look into. -/
def idsOf (o : AOper) (e : List (Nat × AV)) : List Nat := opRefs e o.op (o.dst.getD 0)

theorem callOK_local {P : Program} {T : TT} {e e' : List (Nat × AV)} {m m' : List (Nat × Option Box)} {f : Operand} {args : Array Operand} {ts : Array TypeId} {d : Nat} {r : AV}
    (he : ∀ x ∈ (Op.call ⟨.value f, args, ts⟩).operands.toList, ev e x = ev e' x) (hm : eqOn (opRefs e (.call ⟨.value f, args, ts⟩) d) m m') (h : CallOK P T e m f ts.toList args.toList r) :
    CallOK P T e' m' f ts.toList args.toList r := by
  have hf : ev e f = ev e' f := he f (by simp [Op.operands, Call.operands])
  have ha : (args.toList.map fun x => st (ev e x)) = args.toList.map fun x => st (ev e' x) := List.map_congr_left fun x hx => by rw [he x (by simp [Op.operands, Call.operands]; exact .inr (by simpa using hx))]
  unfold CallOK at *
  rw [← hf, ← ha]
  split at h
  · rename_i g as htgt
    have hrefs : eqOn (AV.refsL as) m m' := by
      intro id hid
      refine hm id ?_
      unfold tgt at htgt
      split at htgt
      · rename_i f' p q hfe
        simp only [Option.some.injEq, Prod.mk.injEq] at htgt
        obtain ⟨rfl, rfl⟩ := htgt
        simp only [refsL_append, nrmL_refs, List.mem_append] at hid
        simp only [opRefs, isMv, Bool.false_eq_true, if_false, List.mem_cons, List.mem_flatMap]
        right
        rcases hid with (hid | hid) | hid
        · refine ⟨f, by simp [Op.operands, Call.operands], ?_⟩
          rw [← st_refs, hfe]
          simp [AV.refs, hid]
        · obtain ⟨a, ha', hid'⟩ := mem_refsL_iff.1 hid
          obtain ⟨x, hx, rfl⟩ := List.mem_map.1 ha'
          refine ⟨x, by simp [Op.operands, Call.operands]; exact .inr (by simpa using hx), ?_⟩
          rw [st_refs] at hid'
          exact hid'
        · refine ⟨f, by simp [Op.operands, Call.operands], ?_⟩
          rw [← st_refs, hfe]
          simp [AV.refs, hid]
      · cases htgt
    rw [← snapL_local as hrefs, ← snapOKL_local as hrefs]
    exact h
  · exact h.elim

theorem stepOK_local {P : Program} {T : TT} {O : List Nat} {o : AOper} {e e' : List (Nat × AV)} {m m' : List (Nat × Option Box)} {v : AV} {up : List (Nat × Option Box)}
    (he : ∀ t ∈ tmpsOf o.op, get e t = get e' t) (hm : eqOn (idsOf o e) m m') (h : StepOK P T O o e m v up) : StepOK P T O o e' m' v up := by
  obtain ⟨hf, h⟩ := h
  have hev := ev_local he
  have hl := opE_local (T := T) (O := O) (d := o.dst.getD 0) (ty := o.ty) hev hm
  refine ⟨by rw [← firms_local fun x hx => hev x (firm_sub _ x hx)]; exact hf, ?_⟩
  obtain ⟨dst, op, ty, guard⟩ := o
  simp only at hl h hev ⊢
  cases op with
  | call c =>
    obtain ⟨callee, args, ts⟩ := c
    cases callee with
    | value f => exact ⟨callOK_local hev hm h.1, h.2⟩
    | _ => simp only at h ⊢; rw [← hl]; exact h
  | _ => simp only at h ⊢; rw [← hl]; exact h

theorem steps_local {P : Program} {T : TT} {O : List Nat} {o : AOper} {e e' : List (Nat × AV)} {m m' : List (Nat × Option Box)} {v : AV} {up : List (Nat × Option Box)}
    (he : ∀ t ∈ slotsOf o, get e t = get e' t) (hm : eqOn (idsOf o e) m m') (h : Steps P T O o e m v up) : Steps P T O o e' m' v up := by
  have he' : ∀ t ∈ tmpsOf o.op, get e t = get e' t := fun t ht => he t (by simp [slotsOf, ht])
  unfold Steps at *
  cases hg : o.guard with
  | none =>
    rw [hg] at h
    exact stepOK_local he' hm h
  | some gw =>
    obtain ⟨g, want⟩ := gw
    rw [hg] at h
    simp only at h ⊢
    rw [← he g (by simp [slotsOf, hg])]
    cases hc : guardOf (get e g) want with
    | none => rw [hc] at h; exact h.elim
    | some c =>
      rw [hc] at h
      obtain ⟨x, hv, hs, hu⟩ := h
      exact ⟨x, hv, fun hc => stepOK_local he' hm (hs hc), hu⟩

/-! ### states out of steps -/
section
variable (dst : Nat → Option Nat) (V : Nat → AV) (U : Nat → List (Nat × Option Box)) (s : St) (n : Nat)

/-- The state behind the steps with these numbers. -/
def stOf (D : Nat → Bool) : St := ((List.range n).filter D).foldl (fun s i => s.app (dst i) (V i) (U i)) s

theorem get_foldl (t : Nat) : ∀ (l : List Nat) (s : St), get (l.foldl (fun s i => s.app (dst i) (V i) (U i)) s).env t =
    match (l.filter fun i => decide (dst i = some t)).getLast? with | some i => V i | none => get s.env t
  | [], s => rfl
  | i :: l, s => by
    simp only [List.foldl_cons]
    rw [get_foldl t l]
    by_cases h : dst i = some t
    · rw [List.filter_cons_of_pos (by simp [h])]
      cases hl : (l.filter fun i => decide (dst i = some t)) with
      | nil => simp [St.app, h, get]
      | cons x xs =>
        cases hq : (x :: xs).getLast? with
        | none => simp at hq
        | some y => simp [hq]
    · rw [List.filter_cons_of_neg (by simp [h])]
      cases hl : (l.filter fun i => decide (dst i = some t)) with
      | nil =>
        simp only [List.getLast?_nil, St.app]
        cases hd : dst i with
        | none => rfl
        | some d =>
          have : t ≠ d := fun e => h (by rw [hd, e])
          simp [get, this]
      | cons x xs =>
        cases hq : (x :: xs).getLast? with
        | none => simp at hq
        | some y => rfl

theorem find_append : ∀ (u m : List (Nat × Option Box)) (id : Nat), find (u ++ m) id = if id ∈ u.map (·.1) then find u id else find m id
  | [], m, id => by simp
  | (k, b) :: u, m, id => by
    simp only [List.cons_append, find, List.map_cons, List.mem_cons]
    by_cases h : id = k
    · simp [h]
    · simp only [h, if_false, false_or]
      exact find_append u m id

theorem find_foldl (id : Nat) : ∀ (l : List Nat) (s : St), find (l.foldl (fun s i => s.app (dst i) (V i) (U i)) s).mem id =
    match (l.filter fun i => decide (id ∈ (U i).map (·.1))).getLast? with | some i => find (U i) id | none => find s.mem id
  | [], s => rfl
  | i :: l, s => by
    simp only [List.foldl_cons]
    rw [find_foldl id l]
    by_cases h : id ∈ (U i).map (·.1)
    · rw [List.filter_cons_of_pos (by simpa using h)]
      cases hl : (l.filter fun i => decide (id ∈ (U i).map (·.1))) with
      | nil =>
        simp only [List.getLast?_nil, List.getLast?_singleton, St.app]
        rw [find_append, if_pos h]
      | cons x xs =>
        cases hq : (x :: xs).getLast? with
        | none => simp at hq
        | some y => simp [hq]
    · rw [List.filter_cons_of_neg (by simpa using h)]
      cases hl : (l.filter fun i => decide (id ∈ (U i).map (·.1))) with
      | nil =>
        simp only [List.getLast?_nil, St.app]
        rw [find_append, if_neg h]
      | cons x xs =>
        cases hq : (x :: xs).getLast? with
        | none => simp at hq
        | some y => rfl

theorem get_stOf {D D' : Nat → Bool} (t : Nat) (h : ∀ i, i < n → dst i = some t → D i = D' i) : get (stOf dst V U s n D).env t = get (stOf dst V U s n D').env t := by
  unfold stOf
  rw [get_foldl, get_foldl, List.filter_filter, List.filter_filter]
  have : (List.range n).filter (fun i => decide (dst i = some t) && D i) = (List.range n).filter fun i => decide (dst i = some t) && D' i := by
    apply List.filter_congr
    intro i hi
    by_cases hd : dst i = some t
    · simp [hd, h i (by simpa using hi) hd]
    · simp [hd]
  rw [this]

theorem find_stOf {D D' : Nat → Bool} (id : Nat) (h : ∀ i, i < n → id ∈ (U i).map (·.1) → D i = D' i) : find (stOf dst V U s n D).mem id = find (stOf dst V U s n D').mem id := by
  unfold stOf
  rw [find_foldl, find_foldl, List.filter_filter, List.filter_filter]
  have : (List.range n).filter (fun i => decide (id ∈ (U i).map (·.1)) && D i) = (List.range n).filter fun i => decide (id ∈ (U i).map (·.1)) && D' i := by
    apply List.filter_congr
    intro i hi
    by_cases hd : id ∈ (U i).map (·.1)
    · simp only [hd, decide_true, Bool.true_and]; exact h i (by simpa using hi) hd
    · simp only [hd, decide_false, Bool.false_and]
  rw [this]

/-- The last of a list that is filtered, if it is the greatest. -/
theorem getLast_filter_range {p : Nat → Bool} {i : Nat} (hi : i < n) (hp : p i = true) (hl : ∀ j, j < n → i < j → p j = false) : ((List.range n).filter p).getLast? = some i := by
  have e : List.range n = List.range (i + 1) ++ (List.range (n - (i + 1))).map (i + 1 + ·) := by
    rw [← List.range_add]
    congr 1
    omega
  rw [e, List.filter_append]
  have e2 : ((List.range (n - (i + 1))).map (i + 1 + ·)).filter p = [] := by
    rw [List.filter_eq_nil_iff]
    intro j hj
    obtain ⟨k, hk, rfl⟩ := List.mem_map.1 hj
    simp only [List.mem_range] at hk
    rw [hl _ (by omega) (by omega)]
    simp
  rw [e2, List.append_nil, List.range_succ, List.filter_append]
  simp [hp]

theorem get_stOf_last {D : Nat → Bool} {i t : Nat} (hi : i < n) (hD : D i = true) (hd : dst i = some t) (hl : ∀ j, j < n → i < j → dst j = some t → D j = false) : get (stOf dst V U s n D).env t = V i := by
  unfold stOf
  rw [get_foldl, List.filter_filter, getLast_filter_range n hi (by simp [hd, hD]) (fun j hj hij => by
    by_cases hdj : dst j = some t
    · simp [hl j hj hij hdj]
    · simp [hdj])]

theorem find_stOf_last {D : Nat → Bool} {i id : Nat} (hi : i < n) (hD : D i = true) (hd : id ∈ (U i).map (·.1)) (hl : ∀ j, j < n → i < j → id ∈ (U j).map (·.1) → D j = false) :
    find (stOf dst V U s n D).mem id = find (U i) id := by
  unfold stOf
  rw [find_foldl, List.filter_filter, getLast_filter_range n hi (by simp only [hd, decide_true, hD, Bool.and_self]) (fun j hj hij => by
    by_cases hdj : id ∈ (U j).map (·.1)
    · simp only [hdj, decide_true, Bool.true_and]; exact hl j hj hij hdj
    · simp only [hdj, decide_false, Bool.false_and])]
end

theorem Rel.same {B : Base} {w : World} {a : Act} {s s' : St} (h : Rel B w a s) (he : ∀ t, get s.env t = get s'.env t) (hm : ∀ id, find s.mem id = find s'.mem id) : Rel B w a s' := by
  obtain ⟨μ, h⟩ := h
  refine ⟨μ, h.defers, h.size, ⟨fun id hid => h.inv.no id (by rw [hm]; exact hid), fun id b hb => h.inv.box id b (by rw [hm]; exact hb), h.inv.apart, h.inv.out⟩, fun t => ?_, h.ext, h.mine, h.base, h.kept⟩
  rw [← he]
  exact h.env t

/-! ### calls to which boxes are lent, in whatever order -/
/-- A call to which boxes are lent: which of them it looks at and changes. -/
def LentStep (P : Program) (T : TT) (o : AOper) (e : List (Nat × AV)) (m : List (Nat × Option Box)) (ex : List Nat) (v : AV) (up : List (Nat × Option Box)) : Prop :=
  o.guard = none ∧ firms e (firm o.op) ∧ ∃ f args ts, o.op = .call ⟨.value f, args, ts⟩ ∧ ∃ g as, tgt (st (ev e f)) (nrmL T ts.toList (args.toList.map fun x => st (ev e x))) = some (g, as) ∧
    ∃ (σ : Names) (r : AV) (m' : List (Nat × Option Box)), namesOK m σ ∧ σ.map (·.1) = ex ∧ CallB P g (renL (upN σ) as) (lendM σ m σ) r m' ∧ v = renA (dnN σ) r ∧ up = backM σ m' σ
theorem namesOK_local {m m' : List (Nat × Option Box)} : ∀ {σ : Names}, eqOn (σ.map (·.1)) m m' → namesOK m σ → namesOK m' σ
  | [], _, _ => trivial
  | (a, b, c) :: l, h, hn => by
    obtain ⟨h1, h2, h3⟩ := hn
    refine ⟨?_, h2, namesOK_local (fun id hid => h id (by simp only [List.map_cons, List.mem_cons]; exact .inr hid)) h3⟩
    rw [← h a (by simp)]
    exact h1
theorem lendM_local {σ0 : Names} {m m' : List (Nat × Option Box)} : ∀ {σ : Names}, eqOn (σ.map (·.1)) m m' → lendM σ0 m σ = lendM σ0 m' σ
  | [], _ => rfl
  | (a, b, c) :: l, h => by
    simp only [lendM]
    rw [h a (by simp), lendM_local (σ := l) fun id hid => h id (by simp only [List.map_cons, List.mem_cons]; exact .inr hid)]
theorem lentStep_local {P : Program} {T : TT} {o : AOper} {e e' : List (Nat × AV)} {m m' : List (Nat × Option Box)} {ex : List Nat} {v : AV} {up : List (Nat × Option Box)}
    (he : ∀ t ∈ slotsOf o, get e t = get e' t) (hm : eqOn ex m m') (h : LentStep P T o e m ex v up) : LentStep P T o e' m' ex v up := by
  obtain ⟨hg, hf, f, args, ts, ho, g, as, ht, σ, r, m1, h1, h2, h3, h4, h5⟩ := h
  have hev := ev_local (op := o.op) (e := e) (e' := e') fun t ht => he t (by simp [slotsOf, ht])
  have hff : ev e f = ev e' f := hev f (by rw [ho]; simp [Op.operands, Call.operands])
  have ha : (args.toList.map fun x => st (ev e x)) = args.toList.map fun x => st (ev e' x) := List.map_congr_left fun x hx => by rw [hev x (by rw [ho]; simp [Op.operands, Call.operands]; exact .inr (by simpa using hx))]
  subst h2
  refine ⟨hg, by rw [← firms_local fun x hx => hev x (firm_sub _ x hx)]; exact hf, f, args, ts, ho, g, as, by rw [← hff, ← ha]; exact ht, σ, r, m1, namesOK_local hm h1, rfl, by rw [← lendM_local hm]; exact h3, h4, h5⟩
/-- One operation, with what it looks at. -/
def Go1 (P : Program) (T : TT) (O : List Nat) (o : AOper) (s : St) (F : List Nat) (v : AV) (up : List (Nat × Option Box)) : Prop :=
  (Steps P T O o s.env s.mem v up ∧ F = idsOf o s.env) ∨ LentStep P T o s.env s.mem F v up
theorem go1_local {P : Program} {T : TT} {O : List Nat} {o : AOper} {s : St} {F : List Nat} {v : AV} {up : List (Nat × Option Box)} (h : Go1 P T O o s F v up) {e' : List (Nat × AV)} {m' : List (Nat × Option Box)}
    (he : ∀ t ∈ slotsOf o, get s.env t = get e' t) (hm : eqOn F s.mem m') : Steps P T O o e' m' v up ∨ LentStep P T o e' m' F v up := by
  rcases h with ⟨h, rfl⟩ | h
  · exact .inl (steps_local he hm h)
  · exact .inr (lentStep_local he hm h)
end Go.Abs
end

section
/- The value layer, part 18: one run in the text's order serves every order. -/
namespace Go.Abs

section
variable {P : Program} {T : TT} (hT : TOK P T) {B : Base} {O : List Nat}

structure Plan (P : Program) (T : TT) (O : List Nat) (ops : Array Oper) (n : Nat) where
  ao : Nat → AOper
  V : Nat → AV
  U : Nat → List (Nat × Option Box)
  F : Nat → List Nat
  s : St
  anc : Nat → List Nat
  size : ops.size = n
  oper : ∀ i o, ops[i]? = some o → aoper ops o = some (ao i)
  edge : ∀ i o, ops[i]? = some o → ∀ e ∈ o.after, Region.binds .any e = true → e.on < i
  close : ∀ D : Nat → Bool, (∀ i o, ops[i]? = some o → D i = true → ∀ e ∈ o.after, Region.binds .any e = true → D e.on = true) →
    ∀ i o, ops[i]? = some o → (∀ e ∈ o.after, Region.binds .any e = true → D e.on = true) → ∀ j ∈ anc i, D j = true
  still : ∀ j i, j < i → i < n → j ∈ anc i ∨ ((∀ t, (ao j).dst = some t → t ∉ slotsOf (ao i)) ∧ (∀ t, (ao i).dst = some t → t ∉ slotsOf (ao j)) ∧ ∀ t, (ao j).dst = some t → (ao i).dst ≠ some t)
  apart : ∀ j i, j < i → i < n → j ∈ anc i ∨ ((∀ id ∈ (U j).map (·.1), id ∉ F i) ∧
    (∀ id ∈ (U i).map (·.1), id ∉ F j) ∧ ∀ id ∈ (U j).map (·.1), id ∉ (U i).map (·.1))
  steps : ∀ i, i < n → Go1 P T O (ao i) (stOf (fun i => (ao i).dst) V U s n (fun k => decide (k < i))) (F i) (V i) (U i)

theorem aoper_dst {ops : Array Oper} {o : Oper} {ao : AOper} (h : aoper ops o = some ao) : ao.dst = o.dst := by
  unfold aoper at h
  split at h
  · cases h; rfl
  · split at h
    · cases h; rfl
    · cases h

variable {ops : Array Oper} {n : Nat} (p : Plan P T O ops n)

def Plan.st (p : Plan P T O ops n) (D : Nat → Bool) : St := stOf (fun i => (p.ao i).dst) p.V p.U p.s n D

theorem listed_set {listed : Array Bool} {i : Nat} (hi : i < listed.size) (k : Nat) : (listed.setIfInBounds i true).getD k false = (decide (k = i) || listed.getD k false) := by
  simp only [Array.getD_eq_getD_getElem?, Array.getElem?_setIfInBounds]
  by_cases e : i = k
  · subst e; simp [hi]
  · simp [e, Ne.symm e]

include hT in
theorem go1_wpOp {i : Nat} {o : Oper} {ao : AOper} {w : World} {a : Act} {s : St} (hi : ops[i]? = some o) (hao : aoper ops o = some ao) (hd : ∀ k, o.dst = some k → k < B.N) {v : AV} {up : List (Nat × Option Box)} {F : List Nat}
    (hrel : Rel B w a s) (hs : Steps P T O ao s.env s.mem v up ∨ LentStep P T ao s.env s.mem F v up) {K : Act → World → Prop} {Q : Exit → Act → World → Prop}
    (hk : ∀ w' a', Rel B w' a' (s.app o.dst v up) → K a' w') : wpOp P ops Q i K a w := by
  rcases hs with hs | hs
  · exact steps_wpOp hT hi hao hd hrel hs hk
  · obtain ⟨hg, hf, f, args, ts, ho, g, as, ht, σ, r, m1, h1, _, h3, rfl, rfl⟩ := hs
    unfold wpOp
    rw [hi]
    simp only
    have hog : o.guard = none ∧ ao.op = o.op := by
      unfold aoper at hao
      split at hao
      · rename_i hgg; cases hao; exact ⟨hgg, rfl⟩
      · split at hao
        · cases hao; cases hg
        · cases hao
    unfold Region.wanted
    rw [hog.1]
    simp only [if_true]
    rw [hog.2] at hf ho
    exact .inl (boxes_wp hrel ho hf ht σ h1 h3 hd fun a' w' h => hk _ _ h)
include hT in
theorem any_sound (hd : ∀ i, i < n → ∀ t, (p.ao i).dst = some t → t < B.N) {Q : Exit → Act → World → Prop} (hQ : ∀ a w, Rel B w a (p.st fun _ => true) → Q .normal a w) :
    ∀ (fuel : Nat) (listed : Array Bool) (a : Act) (w : World), listed.size = n →
      (∀ i o, ops[i]? = some o → listed.getD i false = true → ∀ e ∈ o.after, Region.binds .any e = true → listed.getD e.on false = true) →
      ((List.range n).filter fun i => !listed.getD i false).length ≤ fuel → Rel B w a (p.st fun i => listed.getD i false) → wpAny P .any ops Q fuel listed a w := by
  have hsz := p.size
  have key : ∀ (listed : Array Bool) (a : Act) (w : World), listed.size = n → Region.ready .any ops listed = [] → Rel B w a (p.st fun i => listed.getD i false) → Q .normal a w := by
    intro listed a w hls hr hrel
    have hall : ∀ i, i < n → listed.getD i false = true := by
      intro i
      induction i using Nat.strongRecOn with
      | _ i ih =>
        intro hi
        cases hb : listed.getD i false with
        | true => rfl
        | false =>
          exfalso
          have hmem : i ∈ Region.ready .any ops listed := by
            rw [mem_ready]
            refine ⟨?_, ops[i]'(by omega), by simp [hsz, hi], fun e he hbd => ?_⟩
            · simp only [Array.getD_eq_getD_getElem?] at hb ⊢
              have : i < listed.size := by omega
              simpa [this] using hb
            · have hlt := p.edge i (ops[i]'(by omega)) (by simp [hsz, hi]) e he hbd
              exact ih e.on hlt (by omega)
          rw [hr] at hmem
          cases hmem
    refine hQ a w (hrel.same (fun t => ?_) fun id => ?_)
    · exact get_stOf _ _ _ _ _ t fun i hi _ => by simp only [hall i hi]
    · exact find_stOf _ _ _ _ _ id fun i hi _ => by simp only [hall i hi]
  intro fuel
  induction fuel with
  | zero =>
    intro listed a w hls hcl hfu hrel
    have hr : Region.ready .any ops listed = [] := by
      cases hq : Region.ready .any ops listed with
      | nil => rfl
      | cons i l =>
        exfalso
        have hmem : i ∈ Region.ready .any ops listed := by rw [hq]; simp
        obtain ⟨h1, o, ho, _⟩ := mem_ready.1 hmem
        have hi : i < n := by rw [← hsz]; exact (Array.getElem?_eq_some_iff.1 ho).1
        have : i ∈ (List.range n).filter fun i => !listed.getD i false := by
          rw [List.mem_filter]
          refine ⟨by simpa using hi, ?_⟩
          simp only [Array.getD_eq_getD_getElem?] at h1 ⊢
          have : i < listed.size := by omega
          simpa [this] using h1
        have hlen := List.length_pos_of_mem this
        omega
    exact ⟨hr, key listed a w hls hr hrel⟩
  | succ fuel ih =>
    intro listed a w hls hcl hfu hrel
    refine ⟨fun hr => key listed a w hls hr hrel, fun i hi => ?_⟩
    obtain ⟨h1, o, ho, hed⟩ := mem_ready.1 hi
    have hin : i < n := by rw [← hsz]; exact (Array.getElem?_eq_some_iff.1 ho).1
    have hDi : listed.getD i false = false := by
      simp only [Array.getD_eq_getD_getElem?] at h1 ⊢
      have : i < listed.size := by omega
      simpa [this] using h1
    have hanc : ∀ j ∈ p.anc i, listed.getD j false = true := p.close (fun k => listed.getD k false) hcl i o ho hed
    have hback : ∀ k, k < n → listed.getD k false = true → i ∉ p.anc k := by
      intro k hk hDk hmem
      have := p.close (fun k => listed.getD k false) hcl k (ops[k]'(by omega)) (by simp [hsz, hk]) (fun e he hb => hcl k _ (by simp [hsz, hk]) hDk e he hb) i hmem
      rw [hDi] at this
      cases this
    have hst : Steps P T O (p.ao i) (p.st fun i => listed.getD i false).env (p.st fun i => listed.getD i false).mem (p.V i) (p.U i) ∨ LentStep P T (p.ao i) (p.st fun i => listed.getD i false).env (p.st fun i => listed.getD i false).mem (p.F i) (p.V i) (p.U i) := by
      refine go1_local (p.steps i hin) (fun t ht => ?_) (fun id hid => ?_)
      · refine get_stOf _ _ _ _ _ t fun k hk hdk => ?_
        rcases Nat.lt_trichotomy k i with h | h | h
        · simp only [h, decide_true]
          rcases p.still k i h hin with h2 | h2
          · exact (hanc k h2).symm
          · exact absurd ht (h2.1 t hdk)
        · subst h; simp [hDi]
        · have : ¬ k < i := by omega
          simp only [this, decide_false]
          cases hDk : listed.getD k false with
          | false => rfl
          | true =>
            rcases p.still i k h hk with h2 | h2
            · exact absurd h2 (hback k hk hDk)
            · exact absurd ht (h2.2.1 t hdk)
      · refine find_stOf _ _ _ _ _ id fun k hk hdk => ?_
        rcases Nat.lt_trichotomy k i with h | h | h
        · simp only [h, decide_true]
          rcases p.apart k i h hin with h2 | h2
          · exact (hanc k h2).symm
          · exact absurd hid (h2.1 id hdk)
        · subst h; simp [hDi]
        · have : ¬ k < i := by omega
          simp only [this, decide_false]
          cases hDk : listed.getD k false with
          | false => rfl
          | true =>
            rcases p.apart i k h hk with h2 | h2
            · exact absurd h2 (hback k hk hDk)
            · exact absurd hid (h2.2.1 id hdk)
    have hao := p.oper i o ho
    have hdo := aoper_dst hao
    refine go1_wpOp hT ho hao (fun t ht => hd i hin t (by rw [hdo]; exact ht)) hrel hst fun w' a' hrel' => ?_
    refine ih (listed.setIfInBounds i true) a' w' (by simp [hls]) ?_ ?_ ?_
    · intro k ok hk hDk e he hb
      rw [listed_set (by omega)] at hDk ⊢
      by_cases hki : k = i
      · subst hki
        rw [ho] at hk
        cases hk
        rw [hed e he hb]
        simp
      · simp only [hki, decide_false, Bool.false_or] at hDk
        rw [hcl k ok hk hDk e he hb]
        simp
    · have hsub : ((List.range n).filter fun k => !(listed.setIfInBounds i true).getD k false).length < ((List.range n).filter fun k => !listed.getD k false).length := by
        have heq : ((List.range n).filter fun k => !(listed.setIfInBounds i true).getD k false) = ((List.range n).filter fun k => !listed.getD k false).filter fun k => !decide (k = i) := by
          rw [List.filter_filter]
          apply List.filter_congr
          intro k _
          rw [listed_set (by omega)]
          simp
        rw [heq]
        have hmem : i ∈ (List.range n).filter fun k => !listed.getD k false := by
          rw [List.mem_filter]
          exact ⟨by simpa using hin, by rw [hDi]; rfl⟩
        refine Nat.lt_of_le_of_ne (List.length_filter_le _ _) fun e => ?_
        have := (List.length_filter_eq_length_iff.1 e) i hmem
        simp at this
      omega
    · refine hrel'.same (fun t => ?_) fun id => ?_
      · by_cases ht : (p.ao i).dst = some t
        · have hl : get ((p.st fun i => listed.getD i false).app o.dst (p.V i) (p.U i)).env t = p.V i := by
            rw [← hdo, ht]
            simp [St.app, get]
          rw [hl]
          symm
          refine get_stOf_last _ _ _ _ _ hin (by rw [listed_set (by omega)]; simp) ht fun j hj hij hdj => ?_
          rw [listed_set (by omega)]
          have hji : ¬ j = i := by omega
          simp only [hji, decide_false, Bool.false_or]
          cases hDj : listed.getD j false with
          | false => rfl
          | true =>
            rcases p.still i j hij hj with h2 | h2
            · exact absurd h2 (hback j hj hDj)
            · exact absurd hdj (h2.2.2 t ht)
        · have hl : get ((p.st fun i => listed.getD i false).app o.dst (p.V i) (p.U i)).env t = get (p.st fun i => listed.getD i false).env t := by
            rw [← hdo]
            cases hdd : (p.ao i).dst with
            | none => rfl
            | some d =>
              have : t ≠ d := fun e => ht (by rw [hdd, e])
              simp [St.app, get, this]
          rw [hl]
          refine get_stOf _ _ _ _ _ t fun k hk hdk => ?_
          rw [listed_set (by omega)]
          have : k ≠ i := fun e => ht (by rw [← e]; exact hdk)
          simp [this]
      · by_cases ht : id ∈ (p.U i).map (·.1)
        · have hl : find ((p.st fun i => listed.getD i false).app o.dst (p.V i) (p.U i)).mem id = find (p.U i) id := by
            simp only [St.app]
            rw [find_append, if_pos ht]
          rw [hl]
          symm
          refine find_stOf_last _ _ _ _ _ hin (by rw [listed_set (by omega)]; simp) ht fun j hj hij hdj => ?_
          rw [listed_set (by omega)]
          have hji : ¬ j = i := by omega
          simp only [hji, decide_false, Bool.false_or]
          cases hDj : listed.getD j false with
          | false => rfl
          | true =>
            rcases p.apart i j hij hj with h2 | h2
            · exact absurd h2 (hback j hj hDj)
            · exact absurd hdj (h2.2.2 id ht)
        · have hl : find ((p.st fun i => listed.getD i false).app o.dst (p.V i) (p.U i)).mem id = find (p.st fun i => listed.getD i false).mem id := by
            simp only [St.app]
            rw [find_append, if_neg ht]
          rw [hl]
          refine find_stOf _ _ _ _ _ id fun k hk hdk => ?_
          rw [listed_set (by omega)]
          have : k ≠ i := fun e => ht (by rw [← e]; exact hdk)
          simp [this]

end
end Go.Abs
end

section
/- The value layer, part 19: regions and code. -/
namespace Go.Abs

/-! ### code without what the proof does not need -/
inductive ACode where
  | skip
  | reg (frz : List Nat) (ops : List AOper)
  | draw (frz : List Nat) (ops : List AOper) (pairs : List (Nat × Nat))
  | seq (a b : ACode)
  | cond (c : Operand) (a b : ACode)
  | block (id : Nat) (b : ACode)
  | loop (b : ACode)
  | exit (id : Nat)
  | ret

inductive AExit where
  | normal
  | exit (id : Nat)
  | ret

def uni : List Nat → List Nat → List Nat
  | [], b => b
  | x :: a, b => uni a (if b.contains x then b else x :: b)

theorem mem_uni {x : Nat} : ∀ {a b : List Nat}, x ∈ uni a b → x ∈ a ∨ x ∈ b
  | [], b, h => .inr h
  | y :: a, b, h => by
    simp only [uni] at h
    rcases mem_uni h with h | h
    · exact .inl (by simp [h])
    · split at h
      · exact .inr h
      · rcases List.mem_cons.1 h with h | h
        · exact .inl (by simp [h])
        · exact .inr h

def ancOf (acc : List (List Nat)) : List Nat → List Nat
  | [] => []
  | j :: es => uni (j :: acc.getD j []) (ancOf acc es)

def ancL : List (List Nat) → List (List Nat) → List (List Nat)
  | [], acc => acc
  | es :: rest, acc => ancL rest (acc ++ [ancOf acc es])

/-- What comes before by edges. -/
inductive Anc (E : Nat → List Nat) : Nat → Nat → Prop
  | edge {i j : Nat} (h : j ∈ E i) : Anc E i j
  | step {i k j : Nat} (h : k ∈ E i) (h' : Anc E k j) : Anc E i j

theorem mem_ancOf {E : Nat → List Nat} {acc : List (List Nat)} (hacc : ∀ k, ∀ j ∈ acc.getD k [], Anc E k j) {i : Nat} : ∀ {es : List Nat}, (∀ j ∈ es, j ∈ E i) → ∀ j ∈ ancOf acc es, Anc E i j
  | [], _, j, h => by cases h
  | k :: es, hes, j, h => by
    simp only [ancOf] at h
    rcases mem_uni h with h | h
    · rcases List.mem_cons.1 h with rfl | h
      · exact .edge (hes _ (by simp))
      · exact .step (hes k (by simp)) (hacc k j h)
    · exact mem_ancOf hacc (fun j hj => hes j (by simp [hj])) j h

theorem mem_ancL {E : Nat → List Nat} : ∀ (l : List (List Nat)) (acc : List (List Nat)), (∀ k, ∀ j ∈ acc.getD k [], Anc E k j) → (∀ i, i < l.length → ∀ j ∈ l.getD i [], j ∈ E (acc.length + i)) →
    ∀ k, ∀ j ∈ (ancL l acc).getD k [], Anc E k j
  | [], acc, hacc, _ => hacc
  | es :: l, acc, hacc, hl => by
    simp only [ancL]
    refine mem_ancL l _ ?_ ?_
    · intro k j hj
      rw [List.getD_eq_getElem?_getD, List.getElem?_append] at hj
      split at hj
      · exact hacc k j (by rw [List.getD_eq_getElem?_getD]; exact hj)
      · rename_i hk
        by_cases e : k - acc.length = 0
        · rw [e] at hj
          simp at hj
          have : k = acc.length := by omega
          subst this
          exact mem_ancOf hacc (fun j hj => hl 0 (by simp) j (by simpa using hj)) j hj
        · have : ([ancOf acc es])[k - acc.length]? = none := by simp; omega
          rw [this] at hj
          simp at hj
    · intro i hi j hj
      have := hl (i + 1) (by simpa using hi) j (by simpa using hj)
      simpa [Nat.add_assoc, Nat.add_comm 1 i] using this

def edgesOf (o : Oper) : List Nat := (o.after.toList.filter (Region.binds .any)).map (·.on)

def disj (a b : List Nat) : Bool := a.all fun x => !b.contains x

theorem disj_spec {a b : List Nat} (h : disj a b = true) : ∀ x ∈ a, x ∉ b := by
  intro x hx hb
  have := List.all_eq_true.1 h x hx
  simp [hb] at this

def optL : Option Nat → List Nat
  | some d => [d]
  | none => []

/-- Two operations whose slots do not touch. -/
def slotsApart (x y : AOper) : Bool := disj (optL x.dst) (slotsOf y) && disj (optL y.dst) (slotsOf x) && disj (optL x.dst) (optL y.dst)

/-- The pairs whose order is open; none, if slots of some touch. -/
def openPairs (l : List AOper) (anc : List (List Nat)) : Option (List (Nat × Nat)) :=
  (List.range l.length).foldr (fun i acc => acc.bind fun r => (List.range i).foldr (fun j acc => acc.bind fun r =>
    if (anc.getD i []).contains j then some r else
      match l[j]?, l[i]? with
      | some x, some y => if slotsApart x y then some ((j, i) :: r) else none
      | _, _ => none) (some r)) (some [])

theorem inner_spec {anc : List (List Nat)} {l : List AOper} {i : Nat} : ∀ (js : List Nat) (r r' : List (Nat × Nat)),
    js.foldr (fun j (acc : Option (List (Nat × Nat))) => acc.bind fun r =>
      if (anc.getD i []).contains j then some r else
        match l[j]?, l[i]? with
        | some x, some y => if slotsApart x y then some ((j, i) :: r) else none
        | _, _ => none) (some r) = some r' →
    (∀ q ∈ r, q ∈ r') ∧ ∀ j ∈ js, j ∈ anc.getD i [] ∨ ((j, i) ∈ r' ∧ ∃ x y, l[j]? = some x ∧ l[i]? = some y ∧ slotsApart x y = true)
  | [], r, r', h => by simp at h; subst h; exact ⟨fun q hq => hq, fun j hj => by cases hj⟩
  | j :: js, r, r', h => by
    simp only [List.foldr_cons] at h
    cases hq : js.foldr (fun j (acc : Option (List (Nat × Nat))) => acc.bind fun r =>
      if (anc.getD i []).contains j then some r else
        match l[j]?, l[i]? with
        | some x, some y => if slotsApart x y then some ((j, i) :: r) else none
        | _, _ => none) (some r) with
    | none => rw [hq] at h; simp at h
    | some r1 =>
      rw [hq] at h
      obtain ⟨h1, h2⟩ := inner_spec js r r1 hq
      simp only [Option.bind_some] at h
      split at h
      · rename_i hc
        cases h
        refine ⟨h1, fun k hk => ?_⟩
        rcases List.mem_cons.1 hk with rfl | hk
        · exact .inl (by simpa using hc)
        · exact h2 k hk
      · split at h
        · rename_i x y hx hy
          split at h
          · rename_i hap
            cases h
            refine ⟨fun q hq => by simp [h1 q hq], fun k hk => ?_⟩
            rcases List.mem_cons.1 hk with rfl | hk
            · exact .inr ⟨by simp, x, y, hx, hy, hap⟩
            · rcases h2 k hk with h3 | ⟨h3, h4⟩
              · exact .inl h3
              · exact .inr ⟨by simp [h3], h4⟩
          · cases h
        · cases h

theorem outer_spec {anc : List (List Nat)} {l : List AOper} : ∀ (is : List Nat) (r' : List (Nat × Nat)),
    is.foldr (fun i (acc : Option (List (Nat × Nat))) => acc.bind fun r => (List.range i).foldr (fun j acc => acc.bind fun r =>
      if (anc.getD i []).contains j then some r else
        match l[j]?, l[i]? with
        | some x, some y => if slotsApart x y then some ((j, i) :: r) else none
        | _, _ => none) (some r)) (some []) = some r' →
    ∀ i ∈ is, ∀ j, j < i → j ∈ anc.getD i [] ∨ ((j, i) ∈ r' ∧ ∃ x y, l[j]? = some x ∧ l[i]? = some y ∧ slotsApart x y = true)
  | [], r', _ => by intro i hi; cases hi
  | k :: is, r', h => by
    simp only [List.foldr_cons] at h
    cases hq : is.foldr (fun i (acc : Option (List (Nat × Nat))) => acc.bind fun r => (List.range i).foldr (fun j acc => acc.bind fun r =>
      if (anc.getD i []).contains j then some r else
        match l[j]?, l[i]? with
        | some x, some y => if slotsApart x y then some ((j, i) :: r) else none
        | _, _ => none) (some r)) (some []) with
    | none => rw [hq] at h; simp at h
    | some r1 =>
      rw [hq] at h
      simp only [Option.bind_some] at h
      obtain ⟨h1, h2⟩ := inner_spec _ _ _ h
      intro i hi j hj
      rcases List.mem_cons.1 hi with rfl | hi
      · exact h2 j (by simpa using hj)
      · rcases outer_spec is r1 hq i hi j hj with h3 | ⟨h3, h4⟩
        · exact .inl h3
        · exact .inr ⟨h1 _ h3, h4⟩

/-- A region's operations. -/
def aopers (ops : Array Oper) : List Oper → Option (List AOper)
  | [] => some []
  | o :: l => match aoper ops o with
    | some a => match aopers ops l with
      | some r => some (a :: r)
      | none => none
    | none => none

def dstsOK (N : Nat) : List AOper → Bool
  | [] => true
  | o :: l => (match o.dst with | some d => decide (d < N) | none => true) && dstsOK N l

def edgesOK (l : List Oper) (i : Nat) : Bool :=
  match l with
  | [] => true
  | o :: l => (edgesOf o).all (fun j => decide (j < i)) && edgesOK l (i + 1)

def stripReg (N : Nat) (gs : List Nat) (ops : Array Oper) (draw : Bool) : Option ACode :=
  match aopers ops ops.toList with
  | some l => if dstsOK N l then
      if draw then
        (if edgesOK ops.toList 0 then (openPairs l (ancL (ops.toList.map edgesOf) [])).map fun pairs => .draw gs l pairs else none)
      else some (.reg gs l)
    else none
  | none => none

/-- A region's boxes that become immutable ahead of it are told by the region's number. -/
def strip (N : Nat) (G : Nat → List Nat) : Code → Option ACode
  | .skip => some .skip
  | .region id ops draw => stripReg N (G id) ops draw
  | .seq a b => (strip N G a).bind fun x => (strip N G b).map fun y => .seq x y
  | .cond c a b => (strip N G a).bind fun x => (strip N G b).map fun y => .cond c x y
  | .block id b => (strip N G b).map fun x => .block id x
  | .loop b => (strip N G b).map fun x => .loop x
  | .exit id => some (.exit id)
  | .ret => some .ret
  | _ => none

theorem aopers_get {ops : Array Oper} : ∀ {l : List Oper} {r : List AOper}, aopers ops l = some r → r.length = l.length ∧ ∀ (i : Nat) (o : Oper), l[i]? = some o → ∃ a, r[i]? = some a ∧ aoper ops o = some a
  | [], r, h => by simp [aopers] at h; subst h; simp
  | o :: l, r, h => by
    simp only [aopers] at h
    cases ha : aoper ops o with
    | none => rw [ha] at h; cases h
    | some a =>
      rw [ha] at h
      cases hl : aopers ops l with
      | none => rw [hl] at h; cases h
      | some r' =>
        rw [hl] at h
        cases h
        obtain ⟨h1, h2⟩ := aopers_get hl
        refine ⟨by simp [h1], fun i o' hi => ?_⟩
        cases i with
        | zero => simp at hi; subst hi; exact ⟨a, rfl, ha⟩
        | succ i => simpa using h2 i o' (by simpa using hi)

theorem dstsOK_get {N : Nat} {l : List AOper} : dstsOK N l = true → ∀ (i : Nat) (a : AOper), l[i]? = some a → ∀ t, a.dst = some t → t < N := by
  induction l with
  | nil => intro h i a ha; simp at ha
  | cons o l ih =>
    intro h i a ha t ht
    have h' : (match o.dst with | some d => decide (d < N) | none => true) = true ∧ dstsOK N l = true := by
      rw [dstsOK] at h
      exact Bool.and_eq_true_iff.1 h
    cases i with
    | zero =>
      have e : o = a := by simpa using ha
      subst e
      have h1 := h'.1
      rw [ht] at h1
      simpa using h1
    | succ i => exact ih h'.2 i a (by simpa using ha) t ht

theorem edgesOK_get {l : List Oper} : ∀ {k : Nat}, edgesOK l k = true → ∀ (i : Nat) (o : Oper), l[i]? = some o → ∀ j ∈ edgesOf o, j < k + i := by
  induction l with
  | nil => intro k h i o ho; simp at ho
  | cons o l ih =>
    intro k h i o' ho j hj
    have h' : (edgesOf o).all (fun j => decide (j < k)) = true ∧ edgesOK l (k + 1) = true := by
      rw [edgesOK] at h
      exact Bool.and_eq_true_iff.1 h
    cases i with
    | zero =>
      have e : o = o' := by simpa using ho
      rw [← e] at hj
      have := List.all_eq_true.1 h'.1 j hj
      simpa using this
    | succ i =>
      have := ih h'.2 i o' (by simpa using ho) j hj
      omega

/-! ### runs in the text's order -/
/-- The operations of a region one by one, with what each looks at and changes. -/
def Runs (P : Program) (T : TT) (O : List Nat) : List AOper → St → List (List Nat × List Nat) → (List (List Nat × List Nat) → St → Prop) → Prop
  | [], s, acc, K => K acc s
  | o :: l, s, acc, K => ∃ v up F, Go1 P T O o s F v up ∧ Runs P T O l (s.app o.dst v up) (acc ++ [(F, up.map (·.1))]) K

def apartAll (acc : List (List Nat × List Nat)) : List (Nat × Nat) → Bool
  | [] => true
  | (j, i) :: l => (match acc[j]?, acc[i]? with
      | some x, some y => disj x.2 y.1 && disj y.2 x.1 && disj x.2 y.2
      | _, _ => false) && apartAll acc l

theorem apartAll_get {acc : List (List Nat × List Nat)} : ∀ {l : List (Nat × Nat)}, apartAll acc l = true → ∀ j i, (j, i) ∈ l → ∃ x y, acc[j]? = some x ∧ acc[i]? = some y ∧ disj x.2 y.1 = true ∧ disj y.2 x.1 = true ∧ disj x.2 y.2 = true
  | (j', i') :: l, h, j, i, hm => by
    simp only [apartAll, Bool.and_eq_true] at h
    rcases List.mem_cons.1 hm with e | hm
    · simp only [Prod.mk.injEq] at e
      obtain ⟨rfl, rfl⟩ := e
      have h1 := h.1
      cases hx : acc[j]? with
      | none => rw [hx] at h1; cases h1
      | some x =>
        cases hy : acc[i]? with
        | none => rw [hx, hy] at h1; cases h1
        | some y =>
          rw [hx, hy] at h1
          simp only [Bool.and_eq_true] at h1
          exact ⟨x, y, rfl, rfl, h1.1.1, h1.1.2, h1.2⟩
    · exact apartAll_get h.2 j i hm

/-- The states of a run. -/
def stAt (l : List AOper) (E : List (AV × List (Nat × Option Box))) (s : St) : Nat → St
  | 0 => s
  | i + 1 => (stAt l E s i).app ((l[i]?).bind (·.dst)) ((E.getD i (.junk, [])).1) ((E.getD i (.junk, [])).2)

theorem stAt_cons (o : AOper) (l : List AOper) (x : AV × List (Nat × Option Box)) (E : List (AV × List (Nat × Option Box))) (s : St) : ∀ i, stAt (o :: l) (x :: E) s (i + 1) = stAt l E (s.app o.dst x.1 x.2) i
  | 0 => by simp [stAt]
  | i + 1 => by
    rw [stAt, stAt_cons o l x E s i]
    simp [stAt]

theorem Runs.out {P : Program} {T : TT} {O : List Nat} {K : List (List Nat × List Nat) → St → Prop} : ∀ {l : List AOper} {s : St} {acc : List (List Nat × List Nat)}, Runs P T O l s acc K →
    ∃ (E : List (AV × List (Nat × Option Box))) (fps : List (List Nat × List Nat)), E.length = l.length ∧ K (acc ++ fps) (stAt l E s l.length) ∧ fps.length = l.length ∧
      ∀ (i : Nat) (o : AOper), l[i]? = some o → fps[i]? = some ((fps.getD i ([], [])).1, (E.getD i (.junk, [])).2.map (·.1)) ∧ Go1 P T O o (stAt l E s i) (fps.getD i ([], [])).1 (E.getD i (.junk, [])).1 (E.getD i (.junk, [])).2
  | [], s, acc, h => ⟨[], [], rfl, by simpa [stAt, Runs] using h, rfl, by simp⟩
  | o :: l, s, acc, h => by
    obtain ⟨v, up, F, hs, hr⟩ := h
    obtain ⟨E, fps, hE, hK, hf, h2⟩ := Runs.out hr
    refine ⟨(v, up) :: E, (F, up.map (·.1)) :: fps, by simp [hE], ?_, by simp [hf], fun i o' hi => ?_⟩
    · rw [List.length_cons, stAt_cons]
      simpa using hK
    · cases i with
      | zero => simp at hi; subst hi; exact ⟨by simp, by simpa [stAt] using hs⟩
      | succ i => rw [stAt_cons]; simpa using h2 i o' (by simpa using hi)

theorem stOf_lt {l : List AOper} {E : List (AV × List (Nat × Option Box))} {s : St} : ∀ i, i ≤ l.length →
    stOf (fun i => (l.getD i ⟨none, .ready 0, 0, none⟩).dst) (fun i => (E.getD i (.junk, [])).1) (fun i => (E.getD i (.junk, [])).2) s l.length (fun k => decide (k < i)) = stAt l E s i := by
  intro i hi
  have hfl : (List.range l.length).filter (fun k => decide (k < i)) = List.range i := by
    have e : List.range l.length = List.range i ++ (List.range (l.length - i)).map (i + ·) := by
      rw [← List.range_add]; congr 1; omega
    rw [e, List.filter_append]
    have e1 : (List.range i).filter (fun k => decide (k < i)) = List.range i := by
      rw [List.filter_eq_self]; intro k hk; simpa using hk
    have e2 : ((List.range (l.length - i)).map (i + ·)).filter (fun k => decide (k < i)) = [] := by
      rw [List.filter_eq_nil_iff]; intro k hk; obtain ⟨q, _, rfl⟩ := List.mem_map.1 hk; simp
    rw [e1, e2, List.append_nil]
  unfold stOf
  rw [hfl]
  clear hfl
  induction i with
  | zero => rfl
  | succ i ih =>
    rw [List.range_succ, List.foldl_append, ih (by omega)]
    simp only [List.foldl_cons, List.foldl_nil, stAt]
    congr 1
    have : i < l.length := by omega
    simp [List.getD_eq_getElem?_getD, this]

end Go.Abs
end

section
/- The value layer, part 20: a box that is no longer written becomes immutable. -/
namespace Go.Abs

mutual
def frzA (b : Box) (id : Nat) : AV → AV
  | .sl i ver off len => if i = id then (if ver = b.ver ∧ off + len ≤ b.els.length then .seq b.sz (rng b.els off len) false else .junk) else .sl i ver off len
  | .pt i ver idx o => if i = id then (if ver = b.ver ∧ idx < b.els.length then .ipt (nth b.els idx) o else .junk) else .pt i ver idx o
  | .agg l => .agg (frzL b id l)
  | .tup l => .tup (frzL b id l)
  | .fn f p q => .fn f (frzL b id p) (frzL b id q)
  | .maybe g a => .maybe g (frzA b id a)
  | .raw v => .raw v
  | .seq sz l full => .seq sz l full
  | .ipt e o => .ipt e o
  | .mp i ver => if i = id then (if ver = b.ver then .map b.els else .junk) else .mp i ver
  | .map l => .map l
  | .junk => .junk
def frzL (b : Box) (id : Nat) : List AV → List AV
  | [] => []
  | a :: l => frzA b id a :: frzL b id l
end

theorem frzL_length {b : Box} {id : Nat} : ∀ {l : List AV}, (frzL b id l).length = l.length
  | [] => rfl
  | a :: l => by simp [frzL, frzL_length]
theorem frzL_get {b : Box} {id : Nat} : ∀ {l : List AV} {i : Nat}, i < l.length → (frzL b id l).getD i .junk = frzA b id (l.getD i .junk)
  | a :: l, 0, _ => by simp [frzL]
  | a :: l, i + 1, h => by simpa [frzL] using frzL_get (l := l) (i := i) (by simpa using h)

theorem frzA_width {b : Box} {id : Nat} (a : AV) : (frzA b id a).width = a.width := by
  cases a with
  | agg l => simp only [frzA, AV.width, frzL_length]
  | sl i ver off len =>
    simp only [frzA]
    by_cases h : i = id
    · rw [if_pos h]; by_cases h2 : ver = b.ver ∧ off + len ≤ b.els.length
      · rw [if_pos h2]; rfl
      · rw [if_neg h2]; rfl
    · rw [if_neg h]
  | pt i ver idx o =>
    simp only [frzA]
    by_cases h : i = id
    · rw [if_pos h]; by_cases h2 : ver = b.ver ∧ idx < b.els.length
      · rw [if_pos h2]; rfl
      · rw [if_neg h2]; rfl
    · rw [if_neg h]
  | mp i ver =>
    simp only [frzA]
    by_cases h : i = id
    · rw [if_pos h]; by_cases h2 : ver = b.ver
      · rw [if_pos h2]; rfl
      · rw [if_neg h2]; rfl
    · rw [if_neg h]
  | _ => simp only [frzA, AV.width]

theorem frzA_elemVal {b : Box} {id : Nat} (a : AV) (sz : Nat) (c : Array Value) (o : Nat) : elemVal (frzA b id a) sz c o = elemVal a sz c o := by
  cases a with
  | agg l => simp only [frzA, elemVal]
  | sl i ver off len =>
    simp only [frzA]
    by_cases h : i = id
    · rw [if_pos h]; by_cases h2 : ver = b.ver ∧ off + len ≤ b.els.length
      · rw [if_pos h2]; rfl
      · rw [if_neg h2]; rfl
    · rw [if_neg h]
  | pt i ver idx o =>
    simp only [frzA]
    by_cases h : i = id
    · rw [if_pos h]; by_cases h2 : ver = b.ver ∧ idx < b.els.length
      · rw [if_pos h2]; rfl
      · rw [if_neg h2]; rfl
    · rw [if_neg h]
  | mp i ver =>
    simp only [frzA]
    by_cases h : i = id
    · rw [if_pos h]; by_cases h2 : ver = b.ver
      · rw [if_pos h2]; rfl
      · rw [if_neg h2]; rfl
    · rw [if_neg h]
  | _ => simp only [frzA, elemVal]

def Mu.del (μ : Mu) (id : Nat) : Mu := fun i => if i = id then Option.none else μ i

def frzB (b : Box) (id : Nat) (x : Box) : Box := if x.var then { x with els := frzL b id x.els } else x

def frzSt (s : St) (id : Nat) (b : Box) : St := ⟨s.env.map fun p => (p.1, frzA b id p.2), (id, none) :: s.mem.map fun p => (p.1, p.2.map (frzB b id))⟩

theorem get_map {f : AV → AV} (hj : f .junk = .junk) (t : Nat) : ∀ (e : List (Nat × AV)), get (e.map fun p => (p.1, f p.2)) t = f (get e t)
  | [] => by simp [get, hj]
  | (k, v) :: e => by
    simp only [List.map_cons, get]
    split
    · rfl
    · exact get_map hj t e

theorem find_map {f : Box → Box} (id : Nat) : ∀ (m : List (Nat × Option Box)), find (m.map fun p => (p.1, p.2.map f)) id = (find m id).map f
  | [] => rfl
  | (k, b) :: m => by
    simp only [List.map_cons, find]
    split
    · rfl
    · exact find_map id m

/-- The Rep of what no longer names the box. -/
theorem rep_frz {w : World} {X : Nat → Prop} {m : List (Nat × Option Box)} {μ0 : Mu} (hi : Inv w X μ0 m) {id : Nat} {b : Box} (hb : find m id = some b) (hvar : b.var = true → AV.refsL b.els = [])
    {a : AV} {v : Value} {μ : Mu} (h : Rep w (Yof X μ0) μ a v) : μ = μ0 → Rep w (Yof X (μ0.del id)) (μ0.del id) (frzA b id a) v := by
  have hsub : ∀ g, ¬ Yof X μ0 g → ¬ Yof X (μ0.del id) g := by
    intro g hy hy'
    rcases hy' with hx | ⟨i, l, n, hm, hbk⟩
    · exact hy (.inl hx)
    · by_cases e : i = id
      · simp [Mu.del, e] at hm
      · simp [Mu.del, e] at hm; exact hy (.inr ⟨i, l, n, hm, hbk⟩)
  have hmono : ∀ q, ¬ Yof X μ0 q → q < w.heap.size → ¬ Yof X (μ0.del id) q ∧ w.heap[q]? = w.heap[q]? := fun q hy _ => ⟨hsub q hy, rfl⟩
  obtain ⟨l, hm, hlv, hls, hh⟩ := hi.box id b hb
  have hgone : ∀ g n, l.blk = some (g, n) → ¬ Yof X (μ0.del id) g := by
    intro g n hbk hy
    rcases hy with hx | ⟨i, l', n', hm', hbk'⟩
    · exact hi.out g ⟨id, l, n, hm, hbk⟩ hx
    · by_cases e : i = id
      · simp [Mu.del, e] at hm'
      · simp [Mu.del, e] at hm'
        exact e (hi.apart i id l' l g n' n hm' hm hbk' hbk)
  have hel : l.sz ≠ 0 → ∀ i, i < b.els.length → ∀ g n, l.blk = some (g, n) → ∃ c el, w.heap[g]? = some (.cells c el (0, 0)) ∧ c.size = n ∧ l.base + b.els.length * b.sz ≤ n ∧ (∀ j, j < n → (c.getD j undef).oneCell' = true) ∧
      ∀ i, i < b.els.length → (b.els.getD i .junk).width = b.sz ∧ Rep w (Yof X (μ0.del id)) Mu.none (b.els.getD i .junk) (elemVal (b.els.getD i .junk) b.sz c (l.base + i * b.sz)) := by
    intro hz _ _ g n hbk
    unfold Holds at hh
    rw [hbk] at hh
    obtain ⟨hbig, hcell, _⟩ := hh
    obtain ⟨c, el, hw, hcs, hn, h1, hr⟩ := hcell (by rw [← hls]; exact hz)
    refine ⟨c, el, hw, hcs, hn, h1, fun i hi' => ⟨(hr i hi').1, ?_⟩⟩
    have := (hr i hi').2
    cases hv : b.var with
    | false => rw [hv] at this; exact this.mono hmono (Mu.later.refl _)
    | true =>
      rw [hv] at this
      exact (this.pure (refsL_get (hvar hv) hi') Mu.none).mono hmono (Mu.later.refl _)
  induction h with
  | raw h => intro _; exact .raw h
  | agg h0 h1 h ih =>
    intro e
    simp only [frzA]
    refine .agg (by rw [frzL_length]; exact h0) (fun i hi' => h1 i (by rwa [frzL_length] at hi')) (fun i hi' => ?_)
    rw [frzL_length] at hi'
    rw [frzL_get hi']
    exact ih i hi' e
  | tup h0 h ih =>
    intro e
    simp only [frzA]
    refine .tup (by rw [frzL_length]; exact h0) (fun i hi' => ?_)
    rw [frzL_length] at hi'
    rw [frzL_get hi']
    exact ih i hi' e
  | nil => intro _; simp only [frzA]; exact .nil
  | seq hY hb hc hf hbig hfit hw h1 h ih => intro _; simp only [frzA]; exact .seq (hsub _ hY) hb hc hf hbig hfit hw h1 fun i hi' => (h i hi').mono hmono (Mu.later.refl _)
  | ipt hY hb hfit h1 h ih => intro _; simp only [frzA]; exact .ipt (hsub _ hY) hb hfit h1 (h.mono hmono (Mu.later.refl _))
  | pt hm' hv hbk hz =>
    rename_i μ i ver idx sub loc g n
    intro e
    subst e
    simp only [frzA]
    by_cases e : i = id
    · subst e
      rw [hm] at hm'
      cases hm'
      simp only [if_true]
      split
      · rename_i hc
        obtain ⟨c, el, hw, hcs, hn, h1, hr⟩ := hel hz idx hc.2 g n hbk
        have hri := hr idx hc.2
        have hfi := mul_lt_of_fit hc.2 (Nat.le_refl (b.els.length * b.sz))
        have hwid : (nth b.els idx).width = b.sz := hri.1
        rw [hls]
        exact Rep.ipt (off := l.base + idx * b.sz) (e := nth b.els idx) (hgone g n hbk) hw (by rw [hwid]; omega) (fun j hj1 hj2 => h1 j (by rw [hwid] at hj2; omega)) (by rw [hwid]; exact hri.2)
      · exact .junk
    · rw [if_neg e]
      exact .pt (by simp [Mu.del, e, hm']) hv hbk hz
  | ptOld hm' hv =>
    rename_i μ i ver idx sub loc v
    intro e
    subst e
    simp only [frzA]
    by_cases e : i = id
    · subst e
      rw [hm] at hm'
      cases hm'
      simp only [if_true]
      rw [if_neg (by omega)]
      exact .junk
    · rw [if_neg e]
      exact .ptOld (by simp [Mu.del, e, hm']) hv
  | slNil hm' hv =>
    rename_i μ i ver off loc p
    intro e
    subst e
    simp only [frzA]
    by_cases e : i = id
    · subst e
      simp only [if_true]
      split
      · have : rng b.els off 0 = [] := by rw [rng_eq]; simp
        rw [this]
        exact .nil
      · exact .junk
    · rw [if_neg e]
      exact .slNil (by simp [Mu.del, e, hm']) hv
  | sl hm' hv hbk hc hfit hz =>
    rename_i μ i ver off len cap loc g n
    intro e
    subst e
    simp only [frzA]
    by_cases e : i = id
    · subst e
      rw [hm] at hm'
      cases hm'
      simp only [if_true]
      split
      · rename_i hcond
        obtain ⟨_, hlen⟩ := hcond
        by_cases h0 : b.els.length = 0
        · have hl0 : len = 0 := by omega
          subst hl0
          have : rng b.els off 0 = [] := by rw [rng_eq]; simp
          rw [this]
          unfold Holds at hh
          rw [hbk] at hh
          obtain ⟨hbig, hcell, _⟩ := hh
          obtain ⟨c, el, hw, hcs, hn, h1, hr⟩ := hcell (by rw [← hls]; exact hz)
          have e1 : (off + cap) * l.sz = off * l.sz + cap * l.sz := Nat.add_mul _ _ _
          have := Rep.seq (w := w) (Y := Yof X (μ.del i)) (μ := μ.del i) (sz := b.sz) (l := []) (full := false) (b := g) (off := l.base + off * l.sz) (cap := cap) (hgone g n hbk) hw (by simp) (by simp) (by simp) (by simp; omega) (by simp) (by intro j h1 h2; simp at h2; omega) (by simp)
          simpa using this
        · obtain ⟨c, el, hw, hcs, hn, h1, hr⟩ := hel hz 0 (by omega) g n hbk
          have hl : (rng b.els off len).length = len := by rw [rng_eq]; simp; omega
          have e0 : (off + len) * b.sz ≤ b.els.length * b.sz := Nat.mul_le_mul_right _ hlen
          rw [Nat.add_mul] at e0
          have hbig : b.els.length ≤ big := hh.1
          have hget : ∀ k, k < len → (rng b.els off len).getD k .junk = b.els.getD (off + k) .junk := by
            intro k hi'
            rw [rng_eq]
            simp only [List.getD_eq_getElem?_getD]
            rw [List.getElem?_take, if_pos hi', List.getElem?_drop]
          have := Rep.seq (w := w) (Y := Yof X (μ.del i)) (μ := μ.del i) (sz := b.sz) (l := rng b.els off len) (full := false) (b := g) (off := l.base + off * b.sz) (cap := cap) (hgone g n hbk) hw (by rw [hl]; exact hc) (fun h => by cases h)
            (by rw [hl]; omega) (by rw [hl]; omega) (fun k hi' => by rw [hl] at hi'; rw [hget k hi']; exact (hr (off + k) (by omega)).1)
            (fun j hj1 hj2 => h1 j (by rw [hl] at hj2; omega)) (fun k hi' => by
              rw [hl] at hi'
              rw [hget k hi']
              have := (hr (off + k) (by omega)).2
              rw [Nat.add_assoc, ← Nat.add_mul]
              exact this)
          rw [hl] at this
          rw [hls]
          exact this
      · exact .junk
    · rw [if_neg e]
      exact .sl (by simp [Mu.del, e, hm']) hv hbk hc hfit hz
  | slOld hm' hv =>
    rename_i μ i ver off len loc v
    intro e
    subst e
    simp only [frzA]
    by_cases e : i = id
    · subst e
      rw [hm] at hm'
      cases hm'
      simp only [if_true]
      rw [if_neg (by omega)]
      exact .junk
    · rw [if_neg e]
      exact .slOld (by simp [Mu.del, e, hm']) hv
  | mp hm' hv hbk hz =>
    rename_i μ i ver loc g n
    intro e
    subst e
    simp only [frzA]
    by_cases e : i = id
    · subst e
      rw [hm] at hm'
      cases hm'
      simp only [if_true]
      rw [if_pos (by omega)]
      unfold Holds at hh
      rw [hbk] at hh
      obtain ⟨hbig, _, hmp⟩ := hh
      obtain ⟨_, es, clock, hw, hs, hr⟩ := hmp (by rw [← hls]; exact hz)
      exact .map (hgone g n hbk) hw hs hbig fun k hk => (hr k hk).mono hmono (Mu.later.refl _)
    · rw [if_neg e]
      exact .mp (by simp [Mu.del, e, hm']) hv hbk hz
  | mpOld hm' hv =>
    rename_i μ i ver loc v
    intro e
    subst e
    simp only [frzA]
    by_cases e : i = id
    · subst e
      rw [hm] at hm'
      cases hm'
      simp only [if_true]
      rw [if_neg (by omega)]
      exact .junk
    · rw [if_neg e]
      exact .mpOld (by simp [Mu.del, e, hm']) hv
  | map hY hb hs hbig h ih => intro _; simp only [frzA]; exact .map (hsub _ hY) hb hs hbig fun k hk => (h k hk).mono hmono (Mu.later.refl _)
  | fn h0 ht h k ih ik =>
    intro e
    simp only [frzA]
    refine .fn (by rw [frzL_length]; exact h0) (by rw [frzL_length]; exact ht) (fun i hi' => ?_) (fun i hi' => ?_)
    · rw [frzL_length] at hi'; rw [frzL_get hi']; exact ih i hi' e
    · rw [frzL_length] at hi'; rw [frzL_get hi']; exact ik i hi' e
  | maybe h0 h ih => intro e; simp only [frzA]; exact .maybe h0 fun g => ih g e
  | junk => intro _; simp only [frzA]; exact .junk

theorem frz_rel {B : Base} {w : World} {a : Act} {s : St} {id : Nat} {b : Box} (h : Rel B w a s) (hb : find s.mem id = some b) (hvar : b.var = true → AV.refsL b.els = []) : Rel B w a (frzSt s id b) := by
  obtain ⟨μ, h⟩ := h
  refine ⟨μ.del id, h.defers, h.size, ⟨?_, ?_, ?_, ?_⟩, fun t => ?_, h.ext, ?_, h.base, ?_⟩
  · intro i hf
    by_cases e : i = id
    · simp [Mu.del, e]
    · simp only [frzSt, find, e, if_false, find_map, Option.map_eq_none_iff] at hf
      simp [Mu.del, e, h.inv.no i hf]
  · intro i b' hf
    by_cases e : i = id
    · simp [frzSt, find, e] at hf
    · simp only [frzSt, find, e, if_false, find_map, Option.map_eq_some_iff] at hf
      obtain ⟨b0, hf0, rfl⟩ := hf
      obtain ⟨l, hm, hv, hs, hh⟩ := h.inv.box i b0 hf0
      have hg1 : (frzB b id b0).ver = b0.ver := by unfold frzB; split <;> rfl
      have hg2 : (frzB b id b0).sz = b0.sz := by unfold frzB; split <;> rfl
      have hg3 : (frzB b id b0).var = b0.var := by unfold frzB; split <;> rfl
      have hg4 : (frzB b id b0).els.length = b0.els.length := by unfold frzB; split <;> simp [frzL_length]
      refine ⟨l, by simp [Mu.del, e, hm], by rw [hg1, hv], by rw [hg2, hs], ?_⟩
      unfold Holds at *
      refine ⟨by rw [hg4]; exact hh.1, ?_⟩
      cases hbk : l.blk with
      | none =>
        rw [hbk] at hh
        have : b0.els = [] := hh.2
        simp only
        exact List.eq_nil_of_length_eq_zero (by rw [hg4, this]; rfl)
      | some gn =>
        obtain ⟨g, n⟩ := gn
        rw [hbk] at hh
        obtain ⟨_, hcell, hmp⟩ := hh
        refine ⟨fun hz => ?_, fun hz => ?_⟩
        · rw [hg2] at hz
          obtain ⟨c, el, hw, hcs, hn, h1, hr⟩ := hcell hz
          refine ⟨c, el, hw, hcs, by rw [hg4, hg2]; exact hn, h1, fun k hk => ?_⟩
          rw [hg4] at hk
          rw [hg2, hg3]
          have hrk := hr k hk
          cases hv0 : b0.var with
          | true =>
            have hel : (frzB b id b0).els.getD k .junk = frzA b id (b0.els.getD k .junk) := by
              unfold frzB
              rw [if_pos hv0]
              exact frzL_get hk
            rw [hel, frzA_width, frzA_elemVal]
            rw [hv0] at hrk
            exact ⟨hrk.1, rep_frz h.inv hb hvar hrk.2 rfl⟩
          | false =>
            have hel : (frzB b id b0).els = b0.els := by
              unfold frzB
              rw [if_neg (by simp [hv0])]
            rw [hel]
            rw [hv0] at hrk
            refine ⟨hrk.1, hrk.2.mono (fun q hy _ => ⟨fun hy' => ?_, rfl⟩) (Mu.later.refl _)⟩
            rcases hy' with hx | ⟨i', l', n', hm', hbk'⟩
            · exact hy (.inl hx)
            · by_cases e' : i' = id
              · simp [Mu.del, e'] at hm'
              · simp [Mu.del, e'] at hm'; exact hy (.inr ⟨i', l', n', hm', hbk'⟩)
        · rw [hg2] at hz
          obtain ⟨hv0, es, clock, hw, hs, hr⟩ := hmp hz
          have hel : frzB b id b0 = b0 := by
            unfold frzB
            rw [if_neg (by simp [hv0])]
          rw [hel]
          refine ⟨hv0, es, clock, hw, hs, fun k hk => (hr k hk).mono (fun q hy _ => ⟨fun hy' => ?_, rfl⟩) (Mu.later.refl _)⟩
          rcases hy' with hx | ⟨i', l', n', hm', hbk'⟩
          · exact hy (.inl hx)
          · by_cases e' : i' = id
            · simp [Mu.del, e'] at hm'
            · simp [Mu.del, e'] at hm'; exact hy (.inr ⟨i', l', n', hm', hbk'⟩)
  · intro i i' l l' g n n' hm hm' hb1 hb2
    by_cases e : i = id
    · simp [Mu.del, e] at hm
    · by_cases e' : i' = id
      · simp [Mu.del, e'] at hm'
      · simp [Mu.del, e] at hm
        simp [Mu.del, e'] at hm'
        exact h.inv.apart i i' l l' g n n' hm hm' hb1 hb2
  · rintro g ⟨i, l, n, hm, hbk⟩
    by_cases e : i = id
    · simp [Mu.del, e] at hm
    · simp [Mu.del, e] at hm
      exact h.inv.out g ⟨i, l, n, hm, hbk⟩
  · simp only [frzSt]
    rw [get_map (by simp [frzA])]
    exact rep_frz h.inv hb hvar (h.env t) rfl
  · rintro g ⟨i, l, n, hm, hbk⟩
    by_cases e : i = id
    · simp [Mu.del, e] at hm
    · simp [Mu.del, e] at hm
      exact h.mine g ⟨i, l, n, hm, hbk⟩
  · intro i l0 l h0 hm
    by_cases e : i = id
    · simp [Mu.del, e] at hm
    · simp [Mu.del, e] at hm
      exact h.kept i l0 l h0 hm

end Go.Abs
end

section
/- The value layer, part 21: what is to be shown of code, and that it is enough. -/
namespace Go.Abs
universe u

/-! ### weaker states -/
def leV (a v : AV) : Prop :=
  match v with
  | .junk => True
  | .seq sz l false => a = .seq sz l false ∨ a = .seq sz l true
  | v => a = v

def leEnv (e : List (Nat × AV)) : List (Nat × AV) → Prop
  | [] => True
  | (k, v) :: l => leV (get e k) v ∧ leEnv e l

/-- An element that says less. -/
def leE (a v : AV) : Prop :=
  match v with
  | .seq sz l false => a = .seq sz l false ∨ a = .seq sz l true
  | v => a = v
def leEls : List AV → List AV → Prop
  | [], [] => True
  | a :: l, v :: m => leE a v ∧ leEls l m
  | _, _ => False
def leBox : Option Box → Box → Prop
  | some b', b => b'.sz = b.sz ∧ b'.ver = b.ver ∧ (b'.var = b.var ∨ (b'.var = false ∧ b.sz ≠ 0)) ∧ leEls b'.els b.els
  | none, _ => False
def leMem (m : List (Nat × Option Box)) : List (Nat × Option Box) → Prop
  | [] => True
  | (k, b) :: l => (match b with | some b => find m k = some b ∨ leBox (find m k) b | none => True) ∧ leMem m l
theorem leE_refl (a : AV) : leE a a := by
  unfold leE
  split
  · exact .inl rfl
  · rfl
theorem leEls_refl : ∀ l : List AV, leEls l l
  | [] => trivial
  | a :: l => ⟨leE_refl a, leEls_refl l⟩
theorem leEls_len : ∀ {l m : List AV}, leEls l m → l.length = m.length
  | [], [], _ => rfl
  | a :: l, v :: m, h => by simp [leEls_len h.2]
  | [], _ :: _, h => h.elim
  | _ :: _, [], h => h.elim
theorem leEls_get : ∀ {l m : List AV}, leEls l m → ∀ i, leE (l.getD i .junk) (m.getD i .junk)
  | [], [], _, i => by simp [leE]
  | a :: l, v :: m, h, 0 => by simpa using h.1
  | a :: l, v :: m, h, i + 1 => by simpa using leEls_get h.2 i
  | [], _ :: _, h, _ => h.elim
  | _ :: _, [], h, _ => h.elim
theorem leE_rep {w : World} {Y : Nat → Prop} {μ : Mu} {a v : AV} {x : Value} (h : leE a v) (hr : Rep w Y μ a x) : Rep w Y μ v x := by
  unfold leE at h
  split at h
  · rcases h with rfl | rfl
    · exact hr
    · cases hr with
      | nil => exact .nil
      | seq hY hb hc hf hbig hfit hw h1 h => exact .seq hY hb hc (fun h => by cases h) hbig hfit hw h1 h
  · rw [← h]; exact hr
theorem leE_width {a v : AV} (h : leE a v) : v.width = a.width := by
  unfold leE at h
  split at h
  · rcases h with rfl | rfl <;> rfl
  · rw [h]
theorem leE_elemVal {a v : AV} (h : leE a v) (sz : Nat) (c : Array Value) (o : Nat) : elemVal v sz c o = elemVal a sz c o := by
  unfold leE at h
  split at h
  · rcases h with rfl | rfl <;> rfl
  · rw [h]
theorem leBox_holds {w : World} {Y : Nat → Prop} {μ : Mu} {l : Loc} {b' b : Box} (h : leBox (some b') b) (hh : Holds w Y μ l b') : Holds w Y μ l b := by
  obtain ⟨e1, e2, e3, e4⟩ := h
  have hlen := leEls_len e4
  unfold Holds at hh ⊢
  refine ⟨by rw [← hlen]; exact hh.1, ?_⟩
  have h2 := hh.2
  cases hbk : l.blk with
  | none =>
    rw [hbk] at h2
    exact List.eq_nil_of_length_eq_zero (by rw [← hlen, h2]; rfl)
  | some gn =>
    obtain ⟨g, n⟩ := gn
    rw [hbk] at h2
    refine ⟨fun hz => ?_, fun hz => ?_⟩
    · rw [← e1] at hz
      obtain ⟨c, el, hw, hcs, hfit, h1, hr⟩ := h2.1 hz
      refine ⟨c, el, hw, hcs, by rw [← hlen, ← e1]; exact hfit, h1, fun i hi => ?_⟩
      rw [← hlen] at hi
      have hg := leEls_get e4 i
      rw [leE_width hg, leE_elemVal hg, ← e1]
      refine ⟨(hr i hi).1, ?_⟩
      have h3 := leE_rep hg (hr i hi).2
      rcases e3 with e3 | ⟨e3, _⟩
      · rw [← e3]; exact h3
      · rw [e3] at h3
        split
        · exact h3.mono (fun b hb _ => ⟨hb, rfl⟩) (Mu.none_later μ)
        · exact h3
    · rw [← e1] at hz
      obtain ⟨hv, es, clock, hw, hs, hr⟩ := h2.2 hz
      have hv2 : b.var = false := by
        rcases e3 with e3 | ⟨_, e3⟩
        · rw [← e3]; exact hv
        · exact absurd (e1.symm.trans hz) e3
      exact ⟨hv2, es, clock, hw, by rw [← hlen]; exact hs, fun i hi => leE_rep (leEls_get e4 i) (hr i (by rw [hlen]; exact hi))⟩

def alive (m : List (Nat × Option Box)) (ids : List Nat) : Bool := ids.all fun id => (find m id).isSome

def aliveEnv (m : List (Nat × Option Box)) : List (Nat × AV) → Bool
  | [] => true
  | (_, v) :: l => alive m v.refs && aliveEnv m l

def aliveMem (m : List (Nat × Option Box)) : List (Nat × Option Box) → Bool
  | [] => true
  | (_, some b) :: l => (!b.var || alive m (AV.refsL b.els)) && aliveMem m l
  | (_, none) :: l => aliveMem m l

def le (s s' : St) : Prop := leEnv s.env s'.env ∧ leMem s.mem s'.mem ∧ aliveEnv s'.mem s'.env = true ∧ aliveMem s'.mem s'.mem = true

theorem leV_rep {w : World} {Y : Nat → Prop} {μ : Mu} {a v : AV} {x : Value} (h : leV a v) (hr : Rep w Y μ a x) : Rep w Y μ v x := by
  unfold leV at h
  split at h
  · exact .junk
  · rcases h with rfl | rfl
    · exact hr
    · cases hr with
      | nil => exact .nil
      | seq hY hb hc hf hbig hfit hw h1 h => exact .seq hY hb hc (fun h => by cases h) hbig hfit hw h1 h
  · rw [← h]; exact hr

theorem leEnv_get {e : List (Nat × AV)} : ∀ {l : List (Nat × AV)}, leEnv e l → ∀ t, leV (get e t) (get l t)
  | [], _, t => trivial
  | (k, v) :: l, h, t => by
    simp only [get]
    split
    · rename_i e; rw [e]; exact h.1
    · exact leEnv_get h.2 t

theorem leMem_find {m : List (Nat × Option Box)} : ∀ {l : List (Nat × Option Box)}, leMem m l → ∀ {id : Nat} {b : Box}, find l id = some b → ∃ b', find m id = some b' ∧ leBox (some b') b
  | (k, ob) :: l, h, id, b, hf => by
    simp only [find] at hf
    split at hf
    · rename_i e
      subst hf
      rw [e]
      have h1 : find m k = some b ∨ leBox (find m k) b := h.1
      rcases h1 with h1 | h1
      · exact ⟨b, h1, rfl, rfl, .inl rfl, leEls_refl _⟩
      · cases hfm : find m k with
        | none => rw [hfm] at h1; exact h1.elim
        | some b' => rw [hfm] at h1; exact ⟨b', rfl, h1⟩
    · exact leMem_find h.2 hf

theorem alive_mem {m : List (Nat × Option Box)} {ids : List Nat} (h : alive m ids = true) : ∀ id ∈ ids, (find m id).isSome = true := fun id hid => List.all_eq_true.1 h id hid

theorem aliveEnv_get {m : List (Nat × Option Box)} : ∀ {l : List (Nat × AV)}, aliveEnv m l = true → ∀ t, alive m (get l t).refs = true
  | [], _, t => by simp [get, AV.refs, alive]
  | (k, v) :: l, h, t => by
    simp only [aliveEnv, Bool.and_eq_true] at h
    simp only [get]
    split
    · exact h.1
    · exact aliveEnv_get h.2 t

theorem aliveMem_find {m : List (Nat × Option Box)} : ∀ {l : List (Nat × Option Box)}, aliveMem m l = true → ∀ {id : Nat} {b : Box}, find l id = some b → b.var = true → alive m (AV.refsL b.els) = true
  | (k, some b') :: l, h, id, b, hf, hv => by
    simp only [aliveMem, Bool.and_eq_true] at h
    simp only [find] at hf
    split at hf
    · cases hf
      have := h.1
      rw [hv] at this
      simpa using this
    · exact aliveMem_find h.2 hf hv
  | (k, none) :: l, h, id, b, hf, hv => by
    simp only [find] at hf
    split at hf
    · cases hf
    · exact aliveMem_find (by simpa [aliveMem] using h) hf hv

theorem le_rel {B : Base} {w : World} {a : Act} {s s' : St} (hle : le s s') (h : Rel B w a s) : Rel B w a s' := by
  obtain ⟨he, hm, ha, hb⟩ := hle
  obtain ⟨μ, h⟩ := h
  let μ' : Mu := fun id => if (find s'.mem id).isSome then μ id else none
  have hμ : ∀ id, (find s'.mem id).isSome = true → μ' id = μ id := fun id hid => by simp only [μ', hid, if_true]
  have hμs : ∀ id l, μ' id = some l → μ id = some l := by
    intro id l hl
    simp only [μ'] at hl
    split at hl
    · exact hl
    · cases hl
  have hY : ∀ g, ¬ Yof B.X μ g → ¬ Yof B.X μ' g := by
    intro g hy hy'
    rcases hy' with hx | ⟨i, l, n, hm', hbk⟩
    · exact hy (.inl hx)
    · exact hy (.inr ⟨i, l, n, hμs i l hm', hbk⟩)
  have hmono : ∀ q, ¬ Yof B.X μ q → q < w.heap.size → ¬ Yof B.X μ' q ∧ w.heap[q]? = w.heap[q]? := fun q hy _ => ⟨hY q hy, rfl⟩
  have hrep : ∀ {x : AV} {v : Value}, alive s'.mem x.refs = true → Rep w (Yof B.X μ) μ x v → Rep w (Yof B.X μ') μ' x v := by
    intro x v hal hr
    exact (hr.on (μ' := μ') fun id hid => hμ id (alive_mem hal id hid)).mono hmono (Mu.later.refl _)
  refine ⟨μ', h.defers, h.size, ⟨?_, ?_, ?_, ?_⟩, fun t => hrep (aliveEnv_get ha t) (leV_rep (leEnv_get he t) (h.env t)), h.ext, ?_, h.base, ?_⟩
  · intro id hid
    simp [μ', hid]
  · intro id b hf
    obtain ⟨b', hfb, hle⟩ := leMem_find hm hf
    obtain ⟨l, hm', hv, hs, hh⟩ := h.inv.box id b' hfb
    replace hh := leBox_holds hle hh
    refine ⟨l, by rw [hμ id (by simp [hf])]; exact hm', hv.trans hle.2.1, hs.trans hle.1, ?_⟩
    unfold Holds at *
    refine ⟨hh.1, ?_⟩
    cases hbk : l.blk with
    | none => rw [hbk] at hh; exact hh.2
    | some gn =>
      obtain ⟨g, n⟩ := gn
      rw [hbk] at hh
      obtain ⟨_, hcell, hmp⟩ := hh
      refine ⟨fun hz => ?_, fun hz => ?_⟩
      · obtain ⟨c, el, hw, hcs, hn, h1, hr⟩ := hcell hz
        refine ⟨c, el, hw, hcs, hn, h1, fun i hi => ⟨(hr i hi).1, ?_⟩⟩
        have := (hr i hi).2
        cases hvar : b.var with
        | false => rw [hvar] at this; exact this.mono hmono (Mu.later.refl _)
        | true =>
          rw [hvar] at this
          refine hrep ?_ this
          have hal := aliveMem_find hb hf hvar
          unfold alive
          rw [List.all_eq_true]
          intro id' hid'
          exact alive_mem hal id' (AV.mem_refsL hi hid')
      · obtain ⟨hv0, es, clock, hw, hs, hr⟩ := hmp hz
        exact ⟨hv0, es, clock, hw, hs, fun k hk => (hr k hk).mono hmono (Mu.later.refl _)⟩
  · intro i i' l l' g n n' h1 h2 h3 h4
    exact h.inv.apart i i' l l' g n n' (hμs _ _ h1) (hμs _ _ h2) h3 h4
  · rintro g ⟨i, l, n, hm', hbk⟩
    exact h.inv.out g ⟨i, l, n, hμs _ _ hm', hbk⟩
  · rintro g ⟨i, l, n, hm', hbk⟩
    exact h.mine g ⟨i, l, n, hμs _ _ hm', hbk⟩
  · intro i l0 l h0 hm'
    exact h.kept i l0 l h0 (hμs _ _ hm')

/-! ### what is to be shown -/
/-- A tag: what it names is left alone by simp (nothing may be rewritten on which a type hangs). -/
@[reducible] def Tag {α : Sort u} (_ : α) : Type := Unit

/-- A call: some result that the callee's contract gives. -/
def CallS (P : Program) (g : FuncId) (as : List AV) (ok : Prop) (fl : Bool) (K : AV → Prop) : Prop := ∃ r, CallP P g as r ∧ ok ∧ (fl = true ∨ flat r = true) ∧ K r

/-- A call in a drawn region: some result that the callee's contract gives; or boxes are lent. -/
def CallK (P : Program) (m : List (Nat × Option Box)) (as0 : List AV) (ids : List Nat) (g : FuncId) (as : List AV) (ok : Prop) (fl : Bool) (K : AV → List (Nat × Option Box) → List Nat → Prop) (_t : Tag K := ()) : Prop :=
  (∃ r, CallP P g as r ∧ ok ∧ (fl = true ∨ flat r = true) ∧ K r [] ids) ∨
  (∃ (σ : Names) (r : AV) (m' : List (Nat × Option Box)), namesOK m σ ∧ CallB P g (renL (upN σ) as0) (lendM σ m σ) r m' ∧ K (renA (dnN σ) r) (backM σ m' σ) (σ.map (·.1)))

/-- A guarded call. -/
def CallG (P : Program) (c : Bool) (g : FuncId) (as : List AV) (ok : Prop) (fl : Bool) (K : AV → Prop) (X : Prop) (_t : Tag K := ()) (_u : Tag X := ()) : Prop := (∃ r, (c = true → CallP P g as r ∧ ok ∧ (fl = true ∨ flat r = true)) ∧ K r) ∨ X

/-- A call with whatever contract: an immutable result; a result that the caller owns; a box that is lent. -/
def CallX0 (P : Program) (m : List (Nat × Option Box)) (d : Option Nat) (g : FuncId) (as : List AV) (K : AV → List (Nat × Option Box) → Prop) : Prop :=
  (∃ r, CallP P g (snapL m as) r ∧ snapOKL m as ∧ ((AV.refsL as).isEmpty = true ∨ flat r = true) ∧ K r []) ∨
  (∃ d' sz els, d = some d' ∧ CallO P g (snapL m as) sz els ∧ snapOKL m as ∧ (AV.refsL as = [] ∨ ∀ i, i < els.length → flat (els.getD i .junk) = true) ∧ K (.sl d' (nver m d') 0 els.length) [(d', some ⟨sz, els, nver m d', false⟩)]) ∨
  (∃ d' sz els, d = some d' ∧ CallO P g as sz els ∧ AV.refsL as = [] ∧ K (.sl d' (nver m d') 0 els.length) [(d', some ⟨sz, els, nver m d', false⟩)]) ∨
  (∃ pre id ver n suf b r els', as = pre ++ .sl id ver 0 n :: suf ∧ find m id = some b ∧ b.ver = ver ∧ b.var = false ∧ n = b.els.length ∧ AV.refsL pre = [] ∧ AV.refsL suf = [] ∧
    CallL P g (snapL m pre) b.sz b.els (snapL m suf) r els' ∧ K (r.av id ver) [(id, some ⟨b.sz, els', ver, false⟩)]) ∨
  (∃ (σ : Names) (r : AV) (m' : List (Nat × Option Box)), namesOK m σ ∧ CallB P g (renL (upN σ) as) (lendM σ m σ) r m' ∧ K (renA (dnN σ) r) (backM σ m' σ)) ∨
  (∃ d' sz els u, d = some d' ∧ CallT P g as sz els u ∧ AV.refsL as = [] ∧ K (.tup [.sl d' (nver m d') 0 els.length, .raw u]) [(d', some ⟨sz, els, nver m d', false⟩)])

/-- Boxes become immutable ahead of a call. -/
def frzC : List Nat → List AV → (St → List AV → Prop) → St → Prop
  | [], as, K, s => K s as
  | id :: l, as, K, s => match find s.mem id with
    | some b => (b.var = true → AV.refsL b.els = []) ∧ frzC l (frzL b id as) K (frzSt s id b)
    | none => False

/-- A call, some boxes made immutable ahead of it. -/
def CallX (P : Program) (s : St) (d : Option Nat) (g : FuncId) (as : List AV) (K : St → AV → List (Nat × Option Box) → Prop) (_t : Tag K := ()) : Prop :=
  ∃ ids, frzC ids as (fun s' as' => CallX0 P s'.mem d g as' (K s')) s

theorem CallX.pure {P : Program} {s : St} {d : Option Nat} {g : FuncId} {as : List AV} {K : St → AV → List (Nat × Option Box) → Prop} {r : AV} (h : CallP P g (snapL s.mem as) r) (h1 : snapOKL s.mem as) (h2 : (AV.refsL as).isEmpty = true ∨ flat r = true) (h3 : K s r []) : CallX P s d g as K :=
  ⟨[], .inl ⟨r, h, h1, h2, h3⟩⟩
theorem CallX.own {P : Program} {s : St} {d : Nat} {g : FuncId} {as : List AV} {K : St → AV → List (Nat × Option Box) → Prop} {sz : Nat} {els : List AV} (h : CallO P g (snapL s.mem as) sz els) (h1 : snapOKL s.mem as) (h2 : AV.refsL as = [] ∨ ∀ i, i < els.length → flat (els.getD i .junk) = true)
    (h3 : K s (.sl d (nver s.mem d) 0 els.length) [(d, some ⟨sz, els, nver s.mem d, false⟩)]) : CallX P s (some d) g as K := ⟨[], .inr (.inl ⟨d, sz, els, rfl, h, h1, h2, h3⟩)⟩
theorem CallX.own' {P : Program} {s : St} {d : Nat} {g : FuncId} {as : List AV} {K : St → AV → List (Nat × Option Box) → Prop} {sz : Nat} {els : List AV} (h : CallO P g as sz els) (h1 : AV.refsL as = [])
    (h3 : K s (.sl d (nver s.mem d) 0 els.length) [(d, some ⟨sz, els, nver s.mem d, false⟩)]) : CallX P s (some d) g as K := ⟨[], .inr (.inr (.inl ⟨d, sz, els, rfl, h, h1, h3⟩))⟩
theorem CallX.lend {P : Program} {s : St} {d : Option Nat} {g : FuncId} {as : List AV} {K : St → AV → List (Nat × Option Box) → Prop} (pre : List AV) {id ver n : Nat} (suf : List AV) {b : Box} (r : LRet) (els' : List AV) (ha : as = pre ++ .sl id ver 0 n :: suf)
    (hb : find s.mem id = some b) (hv : b.ver = ver) (hr : b.var = false) (hn : n = b.els.length) (h1 : AV.refsL pre = []) (h2 : AV.refsL suf = []) (h : CallL P g (snapL s.mem pre) b.sz b.els (snapL s.mem suf) r els') (hk : K s (r.av id ver) [(id, some ⟨b.sz, els', ver, false⟩)]) : CallX P s d g as K :=
  ⟨[], .inr (.inr (.inr (.inl ⟨pre, id, ver, n, suf, b, r, els', ha, hb, hv, hr, hn, h1, h2, h, hk⟩)))⟩
/-- Boxes are lent under other names. -/
theorem CallX.boxes {P : Program} {s : St} {d : Option Nat} {g : FuncId} {as : List AV} {K : St → AV → List (Nat × Option Box) → Prop} (σ : Names) {r : AV} {m' : List (Nat × Option Box)} (hσ : namesOK s.mem σ) (h : CallB P g (renL (upN σ) as) (lendM σ s.mem σ) r m')
    (hk : K s (renA (dnN σ) r) (backM σ m' σ)) : CallX P s d g as K := ⟨[], .inr (.inr (.inr (.inr (.inl ⟨σ, r, m', hσ, h, hk⟩))))⟩
/-- Two results, the first of which the caller owns. -/
theorem CallX.two {P : Program} {s : St} {d : Nat} {g : FuncId} {as : List AV} {K : St → AV → List (Nat × Option Box) → Prop} {sz : Nat} {els : List AV} {u : Value} (h : CallT P g as sz els u) (h1 : AV.refsL as = [])
    (h3 : K s (.tup [.sl d (nver s.mem d) 0 els.length, .raw u]) [(d, some ⟨sz, els, nver s.mem d, false⟩)]) : CallX P s (some d) g as K := ⟨[], .inr (.inr (.inr (.inr (.inr ⟨d, sz, els, u, rfl, h, h1, h3⟩))))⟩
/-- The box becomes immutable ahead of the call. -/
theorem CallX.frz {P : Program} {s : St} {d : Option Nat} {g : FuncId} {as : List AV} {K : St → AV → List (Nat × Option Box) → Prop} (id : Nat) {b : Box} (hb : find s.mem id = some b) (hv : b.var = true → AV.refsL b.els = [])
    (h : CallX P (frzSt s id b) d g (frzL b id as) K) : CallX P s d g as K := by
  obtain ⟨ids, h⟩ := h
  refine ⟨id :: ids, ?_⟩
  simp only [frzC, hb]
  exact ⟨hv, h⟩

/-- A condition of an operation, and what comes behind. -/
def PreK (p : Prop) (K : Prop) (_t : Tag K := ()) : Prop := p ∧ K

/-- A test. -/
def CondK (c : AV) (X Y : Prop) (_t : Tag X := ()) (_u : Tag Y := ()) : Prop :=
  match c with
  | .raw (.bool b) => (b = true → X) ∧ (b = false → Y)
  | .maybe g (.raw (.bool b)) => g = true ∧ (b = true → X) ∧ (b = false → Y)
  | _ => False

/-- A slice against nil. -/
def NilK (isNil : Bool → Prop) (K : Bool → Prop) (_t : Tag K := ()) : Prop := ∀ b, isNil b → K b

theorem CallK.intro {P : Program} {m : List (Nat × Option Box)} {as0 : List AV} {ids : List Nat} {g : FuncId} {as : List AV} {ok : Prop} {fl : Bool} {K : AV → List (Nat × Option Box) → List Nat → Prop} {r : AV} (h : CallP P g as r) (h1 : ok) (h2 : fl = true ∨ flat r = true) (h3 : K r [] ids) : CallK P m as0 ids g as ok fl K :=
  .inl ⟨r, h, h1, h2, h3⟩
theorem CallK.boxes {P : Program} {m : List (Nat × Option Box)} {as0 : List AV} {ids : List Nat} {g : FuncId} {as : List AV} {ok : Prop} {fl : Bool} {K : AV → List (Nat × Option Box) → List Nat → Prop} (σ : Names) {r : AV} {m' : List (Nat × Option Box)} (hσ : namesOK m σ)
    (h : CallB P g (renL (upN σ) as0) (lendM σ m σ) r m') (h3 : K (renA (dnN σ) r) (backM σ m' σ) (σ.map (·.1))) : CallK P m as0 ids g as ok fl K := .inr ⟨σ, r, m', hσ, h, h3⟩
theorem CallG.intro {P : Program} {c : Bool} {g : FuncId} {as : List AV} {ok : Prop} {fl : Bool} {K : AV → Prop} {X : Prop} {r : AV} (h : c = true → CallP P g as r) (h1 : c = true → ok) (h2 : fl = true ∨ flat r = true) (h3 : K r) : CallG P c g as ok fl K X :=
  .inl ⟨r, fun hc => ⟨h hc, h1 hc, h2⟩, h3⟩
/-- A guarded call that is made: as one without a guard. -/
theorem CallG.made {P : Program} {g : FuncId} {as : List AV} {ok : Prop} {fl : Bool} {K : AV → Prop} {X : Prop} (h : X) : CallG P true g as ok fl K (true = true ∧ X) := .inr ⟨rfl, h⟩
theorem PreK.intro {p K : Prop} (h : p) (k : p → K) : PreK p K := ⟨h, k h⟩
theorem CondK.intro {b : Bool} {X Y : Prop} (h1 : b = true → X) (h2 : b = false → Y) : CondK (.raw (.bool b)) X Y := ⟨h1, h2⟩

/-- The condition alone, without its trivial parts. -/
def isCall : Op → Option (Operand × List Nat × List Operand)
  | .call ⟨.value f, args, ts⟩ => some (f, ts.toList, args.toList)
  | _ => none

/-- A comparison of a slice with nil: of which slice, and whether for being nil. -/
def isNilCmp : Op → Option (Operand × Nat × Bool)
  | .binOp .eql t x (.const (.slice none 0 0)) _ => some (x, t, true)
  | .binOp .neq t x (.const (.slice none 0 0)) _ => some (x, t, false)
  | _ => none

def nilOK (T : TT) (t : Nat) : Bool := match tkind T t with | .slice _ => (T t).isSome | _ => false

/-- What is known of a slice's being nil. -/
def nilOf (a : AV) (b : Bool) : Prop :=
  match a with
  | .seq _ l _ => b = true → l = []
  | .sl _ _ _ len => b = true → len = 0
  | .raw (.slice none 0 0) => b = true
  | _ => True
def nilArg (m : List (Nat × Option Box)) : AV → Prop
  | .seq _ _ _ => True
  | .sl id ver _ _ => ∃ x, find m id = some x ∧ x.ver = ver
  | .raw (.slice none 0 0) => True
  | _ => False

def vcStep (P : Program) (T : TT) (O : List Nat) (o : AOper) (s : St) (K : St → Prop) : Prop :=
  match isCall o.op with
  | some (f, ts, xs) => match tgt (st (ev s.env f)) (nrmL T ts (xs.map fun x => st (ev s.env x))) with
    | some (g, as) => PreK (firms s.env (firm o.op)) (CallS P g (snapL s.mem as) (snapOKL s.mem as) (AV.refsL as).isEmpty fun r => K (s.app o.dst r []))
    | none => False
  | none => PreK ((opE T O s.mem (o.dst.getD 0) o.ty s.env o.op).pre ∧ firms s.env (firm o.op)) (K (s.app o.dst (opE T O s.mem (o.dst.getD 0) o.ty s.env o.op).val (opE T O s.mem (o.dst.getD 0) o.ty s.env o.op).up))

def vcGuard (P : Program) (T : TT) (O : List Nat) (o : AOper) (c : Bool) (s : St) (K : St → Prop) : Prop :=
  match isCall o.op with
  | some (f, ts, xs) => match tgt (st (ev s.env f)) (nrmL T ts (xs.map fun x => st (ev s.env x))) with
    | some (g, as) => PreK (c = true → firms s.env (firm o.op)) (CallG P c g (snapL s.mem as) (snapOKL s.mem as) (AV.refsL as).isEmpty (fun r => K (s.app o.dst (.maybe c r) [])) False)
    | none => False
  | none => PreK (c = true → (opE T O s.mem (o.dst.getD 0) o.ty s.env o.op).pre ∧ firms s.env (firm o.op))
      (K (s.app o.dst (.maybe c (opE T O s.mem (o.dst.getD 0) o.ty s.env o.op).val) (if c = false then [] else (opE T O s.mem (o.dst.getD 0) o.ty s.env o.op).up)))

/-- One operation in the text's order. -/
def vcOp (P : Program) (T : TT) (O : List Nat) (o : AOper) (s : St) (K : St → Prop) : Prop :=
  match o.guard with
  | none => vcStep P T O o s K
  | some (g, want) => match guardOf (get s.env g) want with
    | some c => vcGuard P T O o c s K
    | none => False

/-- Boxes that become immutable. -/
def frzs : List Nat → (St → Prop) → St → Prop
  | [], K, s => K s
  | id :: l, K, s => match find s.mem id with
    | some b => PreK (b.var = true → AV.refsL b.els = []) (frzs l K (frzSt s id b))
    | none => False

/-- The rows of cells of the frame among boxes, each once. -/
def ownIds (m : List (Nat × Option Box)) : List Nat → List Nat
  | [] => []
  | id :: l => if l.contains id then ownIds m l else match find m id with
    | some b => if b.var = false ∧ b.sz ≠ 0 then id :: ownIds m l else ownIds m l
    | none => ownIds m l
def isBS : Op → Bool
  | .buildSlice _ _ _ => true
  | _ => false
/-- Which boxes become immutable ahead of an operation: those of which a slice is an element of a new slice. -/
def preFrz (o : AOper) (s : St) : List Nat :=
  match o.op, o.guard with
  | .buildSlice _ _ parts, none => ownIds s.mem (AV.refsL (parts.toList.map fun p => st (ev s.env p.2)))
  | _, _ => []
theorem preFrz_none {o : AOper} {s : St} (h : isBS o.op = false) : preFrz o s = [] := by
  unfold preFrz
  split
  · rename_i h2 _; rw [h2] at h; cases h
  · rfl
theorem preFrz_guard {o : AOper} {s : St} {g : Nat × Bool} (h : o.guard = some g) : preFrz o s = [] := by
  unfold preFrz
  split
  · rename_i h2; rw [h] at h2; cases h2
  · rfl

def vcOps (P : Program) (T : TT) (O : List Nat) : List AOper → (St → Prop) → St → Prop
  | [], K, s => K s
  | o :: l, K, s => match isNilCmp o.op, o.guard with
    | some (x, t, pos), none => PreK (nilOK T t = true ∧ nilArg s.mem (st (ev s.env x)) ∧ sg (ev s.env x)) (NilK (nilOf (st (ev s.env x))) fun b => vcOps P T O l K (s.app o.dst (.raw (.bool (b == pos))) []))
    | _, _ => match isCall o.op, o.guard with
      | some (f, ts, xs), none => match tgt (st (ev s.env f)) (nrmL T ts (xs.map fun x => st (ev s.env x))) with
        | some (g, as) => PreK (firms s.env (firm o.op)) (CallX P s o.dst g as fun s' r up => vcOps P T O l K (s'.app o.dst r up))
        | none => False
      | some (f, ts, xs), some (g0, want) => match guardOf (get s.env g0) want with
        | some c => match tgt (st (ev s.env f)) (nrmL T ts (xs.map fun x => st (ev s.env x))) with
          | some (g, as) => PreK (c = true → firms s.env (firm o.op)) (CallG P c g (snapL s.mem as) (snapOKL s.mem as) (AV.refsL as).isEmpty (fun r => vcOps P T O l K (s.app o.dst (.maybe c r) [])) (c = true ∧ CallX P s o.dst g as fun s' r up => vcOps P T O l K (s'.app o.dst r up)))
          | none => False
        | none => False
      | _, _ => frzs (preFrz o s) (fun s' => vcOp P T O o s' (vcOps P T O l K)) s

def upKeys (T : TT) (O : List Nat) (o : AOper) (s : St) : List Nat :=
  match isCall o.op with
  | some _ => []
  | none => match o.guard with
    | none => (opE T O s.mem (o.dst.getD 0) o.ty s.env o.op).up.map (·.1)
    | some (g, w) => if guardOf (get s.env g) w = some false then [] else (opE T O s.mem (o.dst.getD 0) o.ty s.env o.op).up.map (·.1)

def vcDraw (P : Program) (T : TT) (O : List Nat) : List AOper → (List (List Nat × List Nat) → St → Prop) → List (List Nat × List Nat) → St → Prop
  | [], K, acc, s => K acc s
  | o :: l, K, acc, s => match isCall o.op, o.guard with
    | some (f, ts, xs), none => match tgt (st (ev s.env f)) (nrmL T ts (xs.map fun x => st (ev s.env x))) with
      | some (g, as) => PreK (firms s.env (firm o.op)) (CallK P s.mem as (idsOf o s.env) g (snapL s.mem as) (snapOKL s.mem as) (AV.refsL as).isEmpty fun r up F => vcDraw P T O l K (acc ++ [(F, up.map (·.1))]) (s.app o.dst r up))
      | none => False
    | _, _ => vcOp P T O o s (vcDraw P T O l K (acc ++ [(idsOf o s.env, upKeys T O o s)]))

def thenQ (K : St → Prop) (Q : AExit → St → Prop) : AExit → St → Prop
  | .normal, s => K s
  | .exit id, s => Q (.exit id) s
  | .ret, s => Q .ret s

def blockQ (id : Nat) (Q : AExit → St → Prop) : AExit → St → Prop
  | .normal, s => Q .normal s
  | .exit id', s => if id' = id then Q .normal s else Q (.exit id') s
  | .ret, s => Q .ret s

def LoopK (F : (AExit → St → Prop) → St → Prop) (Q : AExit → St → Prop) (s : St) (_t : Tag F := ()) (_u : Tag Q := ()) : Prop :=
  ∃ ids, frzs ids (fun s0 => ∃ (ι : Type) (I : ι → St) (m : ι → Nat), (∃ i, le s0 (I i)) ∧ ∀ i, F (thenQ (fun s' => ∃ ids, frzs ids (fun s'' => ∃ j, le s'' (I j) ∧ m j < m i) s') Q) (I i)) s

def vc (P : Program) (T : TT) (O : List Nat) : ACode → (AExit → St → Prop) → St → Prop
  | .skip, Q, s => Q .normal s
  | .reg gs ops, Q, s => frzs gs (vcOps P T O ops (Q .normal)) s
  | .draw gs ops pairs, Q, s => frzs gs (vcDraw P T O ops (fun acc s' => PreK (apartAll acc pairs = true) (Q .normal s')) []) s
  | .seq a b, Q, s => vc P T O a (thenQ (vc P T O b Q) Q) s
  | .cond c a b, Q, s => CondK (ev s.env c) (vc P T O a Q s) (vc P T O b Q s)
  | .block id b, Q, s => vc P T O b (blockQ id Q) s
  | .loop b, Q, s => LoopK (vc P T O b) Q s
  | .exit id, Q, s => Q (.exit id) s
  | .ret, Q, s => Q .ret s

end Go.Abs
end

section
/- The value layer, part 22: it is enough. -/
namespace Go.Abs

section
variable {P : Program} {T : TT} (hT : TOK P T) {O : List Nat}

theorem isCall_some {op : Op} {f : Operand} {ts : List Nat} {xs : List Operand} (h : isCall op = some (f, ts, xs)) : ∃ args tys, op = .call ⟨.value f, args, tys⟩ ∧ tys.toList = ts ∧ args.toList = xs := by
  unfold isCall at h
  split at h
  · cases h; exact ⟨_, _, rfl, rfl, rfl⟩
  · cases h

theorem stepOK_other {o : AOper} (h : isCall o.op = none) {e : List (Nat × AV)} {m : List (Nat × Option Box)} (hp : (opE T O m (o.dst.getD 0) o.ty e o.op).pre) (hf : firms e (firm o.op)) :
    StepOK P T O o e m (opE T O m (o.dst.getD 0) o.ty e o.op).val (opE T O m (o.dst.getD 0) o.ty e o.op).up := by
  refine ⟨hf, ?_⟩
  obtain ⟨dst, op, ty, guard⟩ := o
  cases op with
  | call c =>
    obtain ⟨callee, args, ts⟩ := c
    cases callee with
    | value f => simp [isCall] at h
    | _ => exact ⟨hp, rfl, rfl⟩
  | _ => exact ⟨hp, rfl, rfl⟩

theorem stepOK_call {o : AOper} {f : Operand} {ts : List Nat} {xs : List Operand} (h : isCall o.op = some (f, ts, xs)) {e : List (Nat × AV)} {m : List (Nat × Option Box)} {g : FuncId} {as : List AV}
    (ht : tgt (st (ev e f)) (nrmL T ts (xs.map fun x => st (ev e x))) = some (g, as)) (hf : firms e (firm o.op)) {r : AV} (hc : CallP P g (snapL m as) r) (hsn : snapOKL m as) (hfl : (AV.refsL as).isEmpty = true ∨ flat r = true) :
    StepOK P T O o e m r [] := by
  refine ⟨hf, ?_⟩
  obtain ⟨dst, op, ty, guard⟩ := o
  obtain ⟨args, tys, rfl, rfl, rfl⟩ := isCall_some h
  refine ⟨?_, rfl⟩
  unfold CallOK
  rw [ht]
  exact ⟨hc, hsn, (by rcases hfl with h | h; exact .inl (List.isEmpty_iff.1 h); exact .inr h)⟩

theorem vcOp_steps {o : AOper} {s : St} {K : St → Prop} (h : vcOp P T O o s K) : ∃ v up, Steps P T O o s.env s.mem v up ∧ up.map (·.1) = upKeys T O o s ∧ K (s.app o.dst v up) := by
  unfold vcOp at h
  unfold Steps upKeys
  cases hg : o.guard with
  | none =>
    rw [hg] at h
    simp only at h ⊢
    unfold vcStep at h
    cases hc : isCall o.op with
    | none =>
      rw [hc] at h
      obtain ⟨⟨hp, hf⟩, hk⟩ := h
      exact ⟨_, _, stepOK_other hc hp hf, rfl, hk⟩
    | some x =>
      obtain ⟨f, ts, xs⟩ := x
      rw [hc] at h
      simp only at h
      cases ht : tgt (st (ev s.env f)) (nrmL T ts (xs.map fun x => st (ev s.env x))) with
      | none => rw [ht] at h; exact h.elim
      | some ga =>
        obtain ⟨g, as⟩ := ga
        rw [ht] at h
        obtain ⟨hf, r, hcall, hsn, hfl, hk⟩ := h
        exact ⟨r, [], stepOK_call hc ht hf hcall hsn hfl, rfl, hk⟩
  | some gw =>
    obtain ⟨g, want⟩ := gw
    rw [hg] at h
    simp only at h ⊢
    cases hgo : guardOf (get s.env g) want with
    | none => rw [hgo] at h; exact h.elim
    | some c =>
      rw [hgo] at h
      simp only at h ⊢
      unfold vcGuard at h
      cases hc : isCall o.op with
      | none =>
        rw [hc] at h
        obtain ⟨hp, hk⟩ := h
        cases c with
        | true =>
          simp only [Bool.true_eq_false, if_false] at hk
          exact ⟨_, _, ⟨_, rfl, fun hcc => stepOK_other hc (hp hcc).1 (hp hcc).2, .inl rfl⟩, by simp, hk⟩
        | false =>
          simp only [if_true] at hk
          exact ⟨_, [], ⟨_, rfl, fun hcc => (by cases hcc), .inr rfl⟩, by simp, hk⟩
      | some x =>
        obtain ⟨f, ts, xs⟩ := x
        rw [hc] at h
        simp only at h
        cases ht : tgt (st (ev s.env f)) (nrmL T ts (xs.map fun x => st (ev s.env x))) with
        | none => rw [ht] at h; exact h.elim
        | some ga =>
          obtain ⟨g', as⟩ := ga
          rw [ht] at h
          obtain ⟨hf, ⟨r, hcall, hk⟩ | h⟩ := h
          case inr => exact h.elim
          exact ⟨_, [], ⟨r, rfl, fun hcc => stepOK_call hc ht (hf hcc) (hcall hcc).1 (hcall hcc).2.1 (hcall hcc).2.2, .inr rfl⟩, rfl, hk⟩

theorem vcDraw_runs {K : List (List Nat × List Nat) → St → Prop} : ∀ {l : List AOper} {acc : List (List Nat × List Nat)} {s : St}, vcDraw P T O l K acc s → Runs P T O l s acc K
  | [], _, _, h => h
  | o :: l, acc, s, h => by
    have plain : vcOp P T O o s (vcDraw P T O l K (acc ++ [(idsOf o s.env, upKeys T O o s)])) → Runs P T O (o :: l) s acc K := by
      intro h
      obtain ⟨v, up, hs, hk, hr⟩ := vcOp_steps h
      refine ⟨v, up, idsOf o s.env, .inl ⟨hs, rfl⟩, ?_⟩
      rw [hk]
      exact vcDraw_runs hr
    simp only [vcDraw] at h
    split at h
    · rename_i f ts xs hc hg
      split at h
      · rename_i g as ht
        obtain ⟨hf, h⟩ := h
        rcases h with ⟨r, h1, h2, h3, h4⟩ | ⟨σ, r, m', h1, h2, h3⟩
        · refine ⟨r, [], idsOf o s.env, .inl ⟨?_, rfl⟩, vcDraw_runs (by simpa using h4)⟩
          unfold Steps
          rw [hg]
          exact stepOK_call hc ht hf h1 h2 h3
        · refine ⟨_, _, _, .inr ?_, vcDraw_runs h3⟩
          obtain ⟨args, tys, ho, rfl, rfl⟩ := isCall_some hc
          exact ⟨hg, hf, f, args, tys, ho, g, as, ht, σ, r, m', h1, rfl, h2, rfl, rfl⟩
      · exact h.elim
    · exact plain h

theorem frzs_rel {B : Base} {w : World} {a : Act} {K : St → Prop} : ∀ {gs : List Nat} {s : St}, frzs gs K s → Rel B w a s → ∃ s', K s' ∧ Rel B w a s'
  | [], s, h, hr => ⟨s, h, hr⟩
  | id :: gs, s, h, hr => by
    simp only [frzs] at h
    cases hf : find s.mem id with
    | none => rw [hf] at h; exact h.elim
    | some b =>
      rw [hf] at h
      exact frzs_rel h.2 (frz_rel hr hf h.1)

omit hT in
theorem run_equalIn_nil {t e : Nat} (hu : P.underlying t = some (.slice e)) (d : Nat) (p : Option Addr) (n cap : Nat) (w : World) : (Op.equalIn (d + 1) t (.slice p n cap) (.slice none 0 0)).run P w = .ok p.isNone w := by
  cases p <;> simp [Op.equalIn, run_underlying hu]

include hT in
/-- A comparison with nil. -/
theorem nil_cmp {B : Base} {w : World} {a : Act} {s : St} {o : Oper} {x : Operand} {t : Nat} {pos : Bool} (hrel : Rel B w a s) (ho : isNilCmp o.op = some (x, t, pos)) (h1 : nilOK T t = true) (h2 : nilArg s.mem (st (ev s.env x))) (h3 : sg (ev s.env x)) :
    ∃ b, nilOf (st (ev s.env x)) b ∧ (execOp a.eval o).run P w = .ok (.value (.bool (b == pos))) w := by
  obtain ⟨μ, h⟩ := hrel
  have hr := rep_st (rep_ev h x) h3
  have hv : ∃ p n cap, a.eval x = .slice p n cap ∧ nilOf (st (ev s.env x)) p.isNone := by
    generalize a.eval x = v at hr
    generalize st (ev s.env x) = y at hr h2
    cases hr with
    | nil => exact ⟨_, _, _, rfl, fun _ => rfl⟩
    | seq => exact ⟨_, _, _, rfl, fun h => by cases h⟩
    | slNil hm hv => exact ⟨_, _, _, rfl, fun _ => rfl⟩
    | sl hm hv hb hc hfit hz => exact ⟨_, _, _, rfl, fun h => by cases h⟩
    | slOld hm hv =>
      obtain ⟨b, hb, hbv⟩ := h2
      obtain ⟨l, hm', hlv, _⟩ := h.inv.box _ b hb
      rw [hm] at hm'; cases hm'
      omega
    | @raw _ v hv =>
      unfold nilArg at h2
      split at h2
      · rename_i e; cases e
      · rename_i e; cases e
      · rename_i e
        cases e
        exact ⟨_, _, _, rfl, rfl⟩
      · exact h2.elim
    | _ => exact h2.elim
  obtain ⟨p, n, cap, hx, hn⟩ := hv
  refine ⟨p.isNone, hn, ?_⟩
  have hu : ∃ e, P.underlying t = some (.slice e) := by
    unfold nilOK at h1
    split at h1
    · rename_i e hk
      obtain ⟨ti, ht⟩ := Option.isSome_iff_exists.1 h1
      obtain ⟨d, hd, hdesc⟩ := (hT t ti ht).desc
      have hkk : tkind T t = ti.kind := by simp [tkind, ht]
      rw [← hkk, hk] at hdesc
      simp only [TK.desc] at hdesc
      subst hdesc
      exact ⟨e, hd⟩
    · cases h1
  obtain ⟨e, hu⟩ := hu
  have heq : (Op.equal t (.slice p n cap) (.slice none 0 0)).run P w = .ok p.isNone w := run_equalIn_nil hu 9999 p n cap w
  unfold isNilCmp at ho
  split at ho
  · rename_i t' x' _ hop
    simp only [Option.some.injEq, Prod.mk.injEq] at ho
    obtain ⟨rfl, rfl, rfl⟩ := ho
    have hc : a.eval (.const (.slice none 0 0)) = .slice none 0 0 := rfl
    simp [execOp, hop, hx, hc, eqGuard, binOp, heq]
  · rename_i t' x' _ hop
    simp only [Option.some.injEq, Prod.mk.injEq] at ho
    obtain ⟨rfl, rfl, rfl⟩ := ho
    have hc : a.eval (.const (.slice none 0 0)) = .slice none 0 0 := rfl
    simp [execOp, hop, hx, hc, eqGuard, binOp, heq]
  · cases ho

omit hT in
theorem ev_frz {s : St} {id : Nat} {b : Box} (x : Operand) : ev (frzSt s id b).env x = frzA b id (ev s.env x) := by
  cases x with
  | tmp t => exact get_map (f := frzA b id) (by simp only [frzA]) t s.env
  | const v => simp only [ev]; unfold cv; split <;> simp only [frzA]
  | global g => simp only [ev, frzA]
  | func f => simp only [ev, frzA, frzL]
omit hT in
theorem st_frz {id : Nat} {b : Box} (a : AV) : st (frzA b id a) = frzA b id (st a) := by
  cases a with
  | maybe g a => simp only [frzA, st]
  | sl i ver off len =>
    show st (frzA b id (.sl i ver off len)) = frzA b id (.sl i ver off len)
    simp only [frzA]
    by_cases h : i = id
    · rw [if_pos h]; by_cases h2 : ver = b.ver ∧ off + len ≤ b.els.length
      · rw [if_pos h2]; rfl
      · rw [if_neg h2]; rfl
    · rw [if_neg h]; rfl
  | pt i ver idx o =>
    show st (frzA b id (.pt i ver idx o)) = frzA b id (.pt i ver idx o)
    simp only [frzA]
    by_cases h : i = id
    · rw [if_pos h]; by_cases h2 : ver = b.ver ∧ idx < b.els.length
      · rw [if_pos h2]; rfl
      · rw [if_neg h2]; rfl
    · rw [if_neg h]; rfl
  | mp i ver =>
    show st (frzA b id (.mp i ver)) = frzA b id (.mp i ver)
    simp only [frzA]
    by_cases h : i = id
    · rw [if_pos h]; by_cases h2 : ver = b.ver
      · rw [if_pos h2]; rfl
      · rw [if_neg h2]; rfl
    · rw [if_neg h]; rfl
  | _ => simp only [frzA, st]
omit hT in
theorem sg_frz {id : Nat} {b : Box} (a : AV) (h : sg a) : sg (frzA b id a) := by
  cases a with
  | maybe g a => simpa only [frzA, sg] using h
  | sl i ver off len => simp only [frzA]; split <;> (try split) <;> trivial
  | pt i ver idx o => simp only [frzA]; split <;> (try split) <;> trivial
  | mp i ver => simp only [frzA]; split <;> (try split) <;> trivial
  | _ => simp only [frzA, sg]
omit hT in
theorem firms_frz {s : St} {id : Nat} {b : Box} : ∀ {l : List Operand}, firms s.env l → firms (frzSt s id b).env l
  | [], _ => trivial
  | x :: l, h => ⟨by rw [ev_frz]; exact sg_frz _ h.1, firms_frz h.2⟩
omit hT in
theorem nrm_raw {t : Nat} (a : AV) (h : ∀ v, a ≠ .raw v) : nrm T t a = a := by
  unfold nrm
  split
  · exact absurd rfl (h _)
  · rfl
omit hT in
theorem nrm_frz {id t : Nat} {b : Box} (a : AV) : nrm T t (frzA b id a) = frzA b id (nrm T t a) := by
  by_cases h : ∃ v, a = .raw v
  · obtain ⟨v, rfl⟩ := h
    have e : frzA b id (.raw v) = .raw v := by simp only [frzA]
    rw [e]
    unfold nrm
    split
    · simp only [frzA]
    · simp only [frzA]
  · have h1 : ∀ v, a ≠ .raw v := fun v e => h ⟨v, e⟩
    have h2 : ∀ v, frzA b id a ≠ .raw v := by
      intro v e
      cases a with
      | raw u => exact h1 u rfl
      | sl i ver off len => simp only [frzA] at e; split at e <;> (try split at e) <;> cases e
      | pt i ver idx o => simp only [frzA] at e; split at e <;> (try split at e) <;> cases e
      | mp i ver => simp only [frzA] at e; split at e <;> (try split at e) <;> cases e
      | _ => simp only [frzA] at e; cases e
    rw [nrm_raw _ h1, nrm_raw _ h2]
omit hT in
theorem nrmL_frz {id : Nat} {b : Box} : ∀ {ts : List Nat} {l : List AV}, nrmL T ts (frzL b id l) = frzL b id (nrmL T ts l)
  | [], l => by simp only [nrmL]
  | t :: ts, [] => by simp only [frzL, nrmL]
  | t :: ts, x :: l => by simp only [frzL, nrmL, nrm_frz, nrmL_frz (ts := ts) (l := l)]
omit hT in
theorem frzL_append {id : Nat} {b : Box} : ∀ l m : List AV, frzL b id (l ++ m) = frzL b id l ++ frzL b id m
  | [], m => by simp only [frzL, List.nil_append]
  | x :: l, m => by simp only [List.cons_append, frzL, frzL_append l m]
omit hT in
theorem frzL_map {id : Nat} {b : Box} {s : St} : ∀ xs : List Operand, (xs.map fun x => st (ev (frzSt s id b).env x)) = frzL b id (xs.map fun x => st (ev s.env x))
  | [] => by simp only [List.map_nil, frzL]
  | x :: xs => by rw [List.map_cons, List.map_cons, frzL, frzL_map xs, ev_frz, st_frz]
omit hT in
theorem tgt_frz {id : Nat} {b : Box} {a : AV} {l as : List AV} {g : FuncId} (h : tgt a l = some (g, as)) : tgt (frzA b id a) (frzL b id l) = some (g, frzL b id as) := by
  unfold tgt at h
  split at h
  · cases h
    simp only [frzA, tgt, frzL_append]
  · cases h
omit hT in
theorem frzC_rel {B : Base} {w : World} {a : Act} {f : Operand} {ts : List Nat} {xs ys : List Operand} {g : FuncId} {K : St → List AV → Prop} : ∀ {ids : List Nat} {s : St} {as : List AV}, Rel B w a s → firms s.env ys →
    tgt (st (ev s.env f)) (nrmL T ts (xs.map fun x => st (ev s.env x))) = some (g, as) → frzC ids as K s →
    ∃ s' as', Rel B w a s' ∧ firms s'.env ys ∧ tgt (st (ev s'.env f)) (nrmL T ts (xs.map fun x => st (ev s'.env x))) = some (g, as') ∧ K s' as'
  | [], s, as, hr, hf, ht, h => ⟨s, as, hr, hf, ht, h⟩
  | id :: ids, s, as, hr, hf, ht, h => by
    simp only [frzC] at h
    cases hb : find s.mem id with
    | none => rw [hb] at h; exact h.elim
    | some b =>
      rw [hb] at h
      refine frzC_rel (frz_rel hr hb h.1) (firms_frz hf) ?_ h.2
      rw [frzL_map, nrmL_frz, ev_frz, st_frz]
      exact tgt_frz ht

include hT in
/-- A region in the text's order. -/
theorem vcOps_sound {B : Base} {ops : Array Oper} {Q : Exit → Act → World → Prop} {K : St → Prop} (hQ : ∀ a w s, Rel B w a s → K s → Q .normal a w) :
    ∀ (l : List AOper) (k : Nat) (s : St) (a : Act) (w : World), (∀ i x, l[i]? = some x → ∃ o, ops[k + i]? = some o ∧ aoper ops o = some x) → k + l.length = ops.size → (∀ x ∈ l, ∀ t, x.dst = some t → t < B.N) →
      vcOps P T O l K s → Rel B w a s → wpOps P ops Q ((List.range l.length).map (k + ·)) a w
  | [], k, s, a, w, _, _, _, h, hr => by simpa [wpOps] using hQ a w s hr h
  | x :: l, k, s, a, w, hl, hlen, hd, h, hr => by
    obtain ⟨o, ho, hao⟩ := hl 0 x rfl
    simp only [Nat.add_zero] at ho
    have hrest : (List.range (l.length + 1)).map (k + ·) = k :: (List.range l.length).map (k + 1 + ·) := by
      rw [List.range_succ_eq_map, List.map_cons, List.map_map]
      simp only [Nat.add_zero, List.cons.injEq, true_and]
      apply List.map_congr_left
      intro j _
      simp only [Function.comp]
      omega
    rw [List.length_cons, hrest, wpOps_cons]
    have hdo := aoper_dst hao
    have hgo : ∀ s' a' w', vcOps P T O l K s' → Rel B w' a' s' → wpOps P ops Q ((List.range l.length).map (k + 1 + ·)) a' w' := fun s' a' w' h' hr' =>
      vcOps_sound hQ l (k + 1) s' a' w' (fun i y hy => by
        obtain ⟨o', h1, h2⟩ := hl (i + 1) y (by simpa using hy)
        exact ⟨o', by rw [Nat.add_assoc, Nat.add_comm 1 i]; exact h1, h2⟩) (by simp at hlen; omega) (fun y hy => hd y (by simp [hy])) h' hr'
    have hplain : ∀ s, Rel B w a s → vcOp P T O x s (vcOps P T O l K) → wpOp P ops Q k (wpOps P ops Q ((List.range l.length).map (k + 1 + ·))) a w := by
      intro s hr h
      obtain ⟨v, up, hs, _, hk⟩ := vcOp_steps h
      exact steps_wpOp hT ho hao (fun t ht => hd x (by simp) t (by rw [hdo]; exact ht)) hr hs fun w' a' hr' => hgo _ _ _ (by rw [hdo] at hk; exact hk) hr'
    have hcallX : ∀ {f : Operand} {ts : List Nat} {xs : List Operand} {g : FuncId} {as0 : List AV}, isCall x.op = some (f, ts, xs) → x.op = o.op → Region.wanted o (yielded ops a.tmps) = true → tgt (st (ev s.env f)) (nrmL T ts (xs.map fun x => st (ev s.env x))) = some (g, as0) → firms s.env (firm x.op) →
        CallX P s x.dst g as0 (fun s' r up => vcOps P T O l K (s'.app x.dst r up)) → wpOp P ops Q k (wpOps P ops Q ((List.range l.length).map (k + 1 + ·))) a w := by
      intro f ts xs g as0 hcall hop hwant htgt0 hf0 hx
      obtain ⟨ids, hx⟩ := hx
      obtain ⟨s1, as, hr, hf, htgt, hx⟩ := frzC_rel hr hf0 htgt0 hx
      rw [hop] at hcall hf
      unfold wpOp
      rw [ho]
      simp only [hwant, if_true]
      left
      rcases hx with ⟨r, h1, h2, h3, h4⟩ | hx
      · refine stepOK_wp (O := O) (g := none) hT hr (stepOK_call (O := O) (o := ⟨o.dst, o.op, o.type, none⟩) hcall htgt hf h1 h2 h3) fun w' v' μ' hrel' hrep => hgo _ _ _ h4 ⟨μ', ?_⟩
        rw [← hdo]
        exact hrel'.app (fun t ht => hd x (by simp) t ht) hrep
      · obtain ⟨args, tys, hopc, rfl, rfl⟩ := isCall_some hcall
        rcases hx with ⟨d', sz, els, hd', h1, h2, h3, h4⟩ | ⟨d', sz, els, hd', h1, h2, h4⟩ | ⟨pre, id, ver, n, suf, b, r, els', rfl, hb, hbv, hbr, hn, h1, h2, h3, h4⟩ | ⟨σ, r, m', hσ, h1, h4⟩ | ⟨d', sz, els, u, hd', h1, h2, h4⟩
        · refine own_wp hr hopc hf htgt h1 h2 h3 (hd x (by simp) d' hd') (hdo ▸ hd') fun a' w' hr' => ?_
          rw [hd'] at h4
          exact hgo _ _ _ h4 hr'
        · refine own_wp' hr hopc hf htgt h1 h2 (hd x (by simp) d' hd') (hdo ▸ hd') fun a' w' hr' => ?_
          rw [hd'] at h4
          exact hgo _ _ _ h4 hr'
        · refine lent_wp hr hopc hf htgt hb hbv hbr hn h1 h2 h3 (fun t ht => hd x (by simp) t (by rw [hdo]; exact ht)) fun a' w' hr' => ?_
          rw [hdo] at h4
          exact hgo _ _ _ h4 hr'
        · refine boxes_wp hr hopc hf htgt σ hσ h1 (fun t ht => hd x (by simp) t (by rw [hdo]; exact ht)) fun a' w' hr' => ?_
          rw [hdo] at h4
          exact hgo _ _ _ h4 hr'
        · refine own_wpT hr hopc hf htgt h1 h2 (hd x (by simp) d' hd') (hdo ▸ hd') fun a' w' hr' => ?_
          rw [hd'] at h4
          exact hgo _ _ _ h4 hr'
    simp only [vcOps] at h
    split at h
    · rename_i y t pos hn hg
      obtain ⟨⟨h1, h2, h3⟩, hk⟩ := h
      have hop : x.op = o.op := by
        unfold aoper at hao
        split at hao
        · cases hao; rfl
        · split at hao
          · cases hao; rfl
          · cases hao
      have hgo' : o.guard = none := by
        unfold aoper at hao
        split at hao
        · rename_i hgg; exact hgg
        · split at hao
          · cases hao; cases hg
          · cases hao
      rw [hop] at hn
      obtain ⟨b, hb, hrun⟩ := nil_cmp (o := o) hT hr hn h1 h2 h3
      unfold wpOp
      rw [ho]
      simp only [Region.wanted, hgo', if_true]
      left
      unfold Oper.wp
      rw [hrun]
      obtain ⟨μ, hr⟩ := hr
      refine hgo _ _ _ (hk b hb) ⟨μ, ?_⟩
      rw [← hdo]
      exact RelM.app (up := []) hr (fun t ht => hd x (by simp) t ht) (.raw rfl)
    · split at h
      · rename_i f ts xs hcall hg
        have hop : x.op = o.op := by
          unfold aoper at hao
          split at hao
          · cases hao; rfl
          · split at hao
            · cases hao; rfl
            · cases hao
        have hgo' : o.guard = none := by
          unfold aoper at hao
          split at hao
          · rename_i hgg; exact hgg
          · split at hao
            · cases hao; cases hg
            · cases hao
        split at h
        · rename_i g as0 htgt0
          obtain ⟨hf0, hx⟩ := h
          exact hcallX hcall hop (by simp [Region.wanted, hgo']) htgt0 hf0 hx
        · exact h.elim
      · rename_i f ts xs g0 want hcall hg
        have hao2 : x.op = o.op ∧ ∃ j, o.guard = some (j, want) ∧ (ops[j]?).bind (·.dst) = some g0 := by
          unfold aoper at hao
          split at hao
          · cases hao; cases hg
          · rename_i j want' hgg
            split at hao
            · rename_i t ht
              cases hao
              simp only [Option.some.injEq, Prod.mk.injEq] at hg
              obtain ⟨rfl, rfl⟩ := hg
              exact ⟨rfl, j, hgg, ht⟩
            · cases hao
        obtain ⟨hop, j, hgj, hdj⟩ := hao2
        split at h
        · rename_i c hc
          split at h
          · rename_i g as0 htgt0
            obtain ⟨hf0, h | ⟨rfl, hx⟩⟩ := h
            · refine hplain s hr ?_
              unfold vcOp
              rw [hg]
              simp only [hc]
              unfold vcGuard
              simp only [hcall, htgt0]
              exact ⟨hf0, .inl h⟩
            · obtain ⟨μ, hrm⟩ := hr
              have hy := yielded_guard hdj hrm hc
              refine hcallX hcall hop ?_ htgt0 (hf0 rfl) hx
              unfold Region.wanted
              rw [hgj]
              exact hy
          · exact h.elim
        · exact h.elim
      · obtain ⟨s', h', hr'⟩ := frzs_rel h hr
        exact hplain s' hr' h'

end
end Go.Abs
end

section
/- The value layer, part 23: drawn regions, code, functions. -/
namespace Go.Abs

section
variable {P : Program} {T : TT} (hT : TOK P T) {O : List Nat}

/-- What is left of a state by code. -/
def post (B : Base) (Q : AExit → St → Prop) : Exit → Act → World → Prop
  | .normal, a, w => ∃ s, Rel B w a s ∧ Q .normal s
  | .exit id, a, w => ∃ s, Rel B w a s ∧ Q (.exit id) s
  | .ret, a, w => ∃ s, Rel B w a s ∧ Q .ret s
  | _, _, _ => False

theorem rep_false (n i : Nat) : (Array.replicate n false).getD i false = false := by
  rw [Array.getD_eq_getD_getElem?, Array.getElem?_replicate]
  split <;> rfl

theorem Rel.drew {B : Base} {w : World} {a : Act} {s : St} (h : Rel B w a s) : Rel B { w with drawn := w.drawn + 1 } a s := by
  obtain ⟨μ, h⟩ := h
  exact ⟨μ, h.grows (Grows.drew w)⟩

theorem edges_close {ops : Array Oper} (hedge : ∀ i o, ops[i]? = some o → ∀ e ∈ o.after, Region.binds .any e = true → e.on < i) (D : Nat → Bool)
    (hD : ∀ i o, ops[i]? = some o → D i = true → ∀ e ∈ o.after, Region.binds .any e = true → D e.on = true) {E : Nat → List Nat} (hE : ∀ i, E i = match ops[i]? with | some o => edgesOf o | none => []) :
    ∀ {i j : Nat}, Anc E i j → ∀ o, ops[i]? = some o → (∀ e ∈ o.after, Region.binds .any e = true → D e.on = true) → D j = true := by
  intro i j h
  induction h with
  | edge h =>
    intro o ho hed
    rw [hE, ho] at h
    simp only [edgesOf, List.mem_map, List.mem_filter] at h
    obtain ⟨e, ⟨he, hb⟩, rfl⟩ := h
    exact hed e (by simpa using he) hb
  | step h h' ih =>
    intro o ho hed
    rename_i i k j
    rw [hE, ho] at h
    simp only [edgesOf, List.mem_map, List.mem_filter] at h
    obtain ⟨e, ⟨he, hb⟩, rfl⟩ := h
    have hDk := hed e (by simpa using he) hb
    cases hk : ops[e.on]? with
    | none =>
      exfalso
      have hEk : E e.on = [] := by rw [hE, hk]
      cases h' with
      | edge h' => rw [hEk] at h'; cases h'
      | step h' _ => rw [hEk] at h'; cases h'
    | some ok => exact ih ok hk (hD e.on ok hk hDk)

include hT in
theorem draw_sound (hm : P.follows .mixedOrders = true) {B : Base} {N : Nat} (hN : B.N = N) {id : Nat} {ops : Array Oper} {gs : List Nat} {l : List AOper} {pairs : List (Nat × Nat)} (hst : stripReg N gs ops true = some (.draw gs l pairs))
    {Q : AExit → St → Prop} {s : St} {a : Act} {w : World} (h : vcDraw P T O l (fun acc s' => PreK (apartAll acc pairs = true) (Q .normal s')) [] s) (hr : Rel B w a s) : (Code.region id ops true).wp P (post B Q) a w := by
  unfold stripReg at hst
  split at hst
  · rename_i l' hl
    split at hst
    · rename_i hd
      simp only [if_true] at hst
      split at hst
      · rename_i hed
        simp only [Option.map_eq_some_iff] at hst
        obtain ⟨pairs', hop, heq⟩ := hst
        cases heq
        obtain ⟨hlen, hget⟩ := aopers_get hl
        have hlen' : l.length = ops.size := by rw [hlen]; simp
        obtain ⟨E, fps, hE, ⟨hap, hQ⟩, hfl, hfg⟩ := (vcDraw_runs h).out
        have hfp := fun i o h => (hfg i o h).1
        simp only [List.nil_append] at hap
        have hedge : ∀ i o, ops[i]? = some o → ∀ e ∈ o.after, Region.binds .any e = true → e.on < i := by
          intro i o ho e he hb
          have := edgesOK_get hed i o (by simpa using ho) e.on (by simp only [edgesOf, List.mem_map, List.mem_filter]; exact ⟨e, ⟨by simpa using he, hb⟩, rfl⟩)
          omega
        have hoper : ∀ i o, ops[i]? = some o → aoper ops o = some (l.getD i ⟨none, .ready 0, 0, none⟩) := by
          intro i o ho
          obtain ⟨x, hx, hax⟩ := hget i o (by simpa using ho)
          simp [List.getD_eq_getElem?_getD, hx, hax]
        have hlg : ∀ i, i < l.length → l[i]? = some (l.getD i ⟨none, .ready 0, 0, none⟩) := by
          intro i hi
          simp [List.getD_eq_getElem?_getD, hi]
        have hpairs : ∀ i, i < l.length → ∀ j, j < i → j ∈ (ancL (ops.toList.map edgesOf) []).getD i [] ∨ ((j, i) ∈ pairs ∧ ∃ x y, l[j]? = some x ∧ l[i]? = some y ∧ slotsApart x y = true) :=
          fun i hi => outer_spec _ _ hop i (by simpa using hi)
        let Ef : Nat → List Nat := fun i => match ops[i]? with | some o => edgesOf o | none => []
        have hanc : ∀ k, ∀ j ∈ (ancL (ops.toList.map edgesOf) []).getD k [], Anc Ef k j := by
          refine mem_ancL _ [] (by simp) fun i hi j hj => ?_
          have hi' : i < ops.size := by simpa using hi
          have : (ops.toList.map edgesOf).getD i [] = edgesOf ops[i] := by simp [List.getD_eq_getElem?_getD, hi']
          rw [this] at hj
          simpa [Ef, hi'] using hj
        let p : Plan P T O ops l.length := {
          ao := fun i => l.getD i ⟨none, .ready 0, 0, none⟩
          V := fun i => (E.getD i (.junk, [])).1
          U := fun i => (E.getD i (.junk, [])).2
          F := fun i => (fps.getD i ([], [])).1
          s := s
          anc := fun i => (ancL (ops.toList.map edgesOf) []).getD i []
          size := hlen'.symm
          oper := hoper
          edge := hedge
          close := fun D hD i o ho hed' j hj => edges_close hedge D hD (E := Ef) (fun i => rfl) (hanc i j hj) o ho hed'
          still := by
            intro j i hji hi
            rcases hpairs i hi j hji with h1 | ⟨_, x, y, hx, hy, hxy⟩
            · exact .inl h1
            · right
              have ex : l.getD j ⟨none, .ready 0, 0, none⟩ = x := by simp [List.getD_eq_getElem?_getD, hx]
              have ey : l.getD i ⟨none, .ready 0, 0, none⟩ = y := by simp [List.getD_eq_getElem?_getD, hy]
              simp only [ex, ey]
              simp only [slotsApart, Bool.and_eq_true] at hxy
              refine ⟨fun t ht => disj_spec hxy.1.1 t (by rw [ht]; simp [optL]), fun t ht => disj_spec hxy.1.2 t (by rw [ht]; simp [optL]), fun t ht ht' => disj_spec hxy.2 t (by rw [ht]; simp [optL]) (by rw [ht']; simp [optL])⟩
          apart := by
            intro j i hji hi
            rcases hpairs i hi j hji with h1 | ⟨hp, _⟩
            · exact .inl h1
            · right
              obtain ⟨x, y, hx, hy, d1, d2, d3⟩ := apartAll_get hap j i hp
              have fx := hfp j _ (hlg j (by omega))
              have fy := hfp i _ (hlg i hi)
              rw [hx] at fx
              rw [hy] at fy
              simp only [Option.some.injEq] at fx fy
              rw [fx, fy] at d1 d2 d3
              exact ⟨disj_spec d1, disj_spec d2, disj_spec d3⟩
          steps := by
            intro i hi
            rw [stOf_lt i (by omega)]
            exact (hfg i _ (hlg i hi)).2 }
        have hfin : p.st (fun _ => true) = stAt l E s l.length := by
          rw [← stOf_lt l.length (Nat.le_refl _)]
          show stOf _ _ _ _ _ _ = stOf _ _ _ _ _ _
          unfold stOf
          have : (List.range l.length).filter (fun _ => true) = (List.range l.length).filter fun k => decide (k < l.length) := by
            apply List.filter_congr
            intro k hk
            simpa using hk
          rw [this]
        refine wp_region_any hm (any_sound hT p (B := B) (fun i hi t ht => ?_) (fun a' w' hrel => ?_) _ _ _ _ ?_ ?_ ?_ ?_)
        · rw [hN]
          exact dstsOK_get hd i _ (hlg i hi) t ht
        · rw [hfin] at hrel
          exact ⟨_, hrel, hQ⟩
        · simp [hlen']
        · intro i o ho hli
          rw [rep_false] at hli
          cases hli
        · refine Nat.le_trans (List.length_filter_le _ _) ?_
          simp [hlen']
        · have h0 : p.st (fun i => (Array.replicate ops.size false).getD i false) = s := by
            show stOf _ _ _ _ _ _ = s
            unfold stOf
            have : (List.range l.length).filter (fun i => (Array.replicate ops.size false).getD i false) = [] := by
              rw [List.filter_eq_nil_iff]
              intro i _
              rw [rep_false]
              simp
            rw [this]
            rfl
          rw [h0]
          exact hr.drew
      · cases hst
    · cases hst
  · cases hst

theorem stripReg_shape {N : Nat} {gs : List Nat} {ops : Array Oper} {draw : Bool} {ac : ACode} (h : stripReg N gs ops draw = some ac) :
    (draw = false ∧ ∃ l, ac = .reg gs l ∧ aopers ops ops.toList = some l ∧ dstsOK N l = true) ∨ (draw = true ∧ ∃ l pairs, ac = .draw gs l pairs) := by
  unfold stripReg at h
  split at h
  · rename_i l hl
    split at h
    · rename_i hd
      cases draw with
      | false =>
        simp only [Bool.false_eq_true, if_false, Option.some.injEq] at h
        exact .inl ⟨rfl, l, h.symm, hl, hd⟩
      | true =>
        simp only [if_true] at h
        split at h
        · simp only [Option.map_eq_some_iff] at h
          obtain ⟨pairs, _, h⟩ := h
          exact .inr ⟨rfl, l, pairs, h.symm⟩
        · cases h
    · cases h
  · cases h

include hT in
theorem vc_sound (hm : P.follows .mixedOrders = true) {N : Nat} {G : Nat → List Nat} : ∀ (c : Code) (ac : ACode), strip N G c = some ac → ∀ (Q : AExit → St → Prop) (s : St), vc P T O ac Q s →
    ∀ (B : Base) (w : World) (a : Act), B.N = N → Rel B w a s → c.wp P (post B Q) a w
  | .skip, ac, hs, Q, s, h, B, w, a, hN, hr => by
    simp only [strip, Option.some.injEq] at hs; subst hs
    exact wp_skip ⟨s, hr, h⟩
  | .region id ops draw, ac, hs, Q, s, h, B, w, a, hN, hr => by
    simp only [strip] at hs
    rcases stripReg_shape hs with ⟨rfl, l, rfl, hl, hd⟩ | ⟨rfl, l, pairs, rfl⟩
    · obtain ⟨s', h', hr'⟩ := frzs_rel h hr
      obtain ⟨hlen, hget⟩ := aopers_get hl
      have hlen' : l.length = ops.size := by rw [hlen]; simp
      refine wp_region ?_
      have := vcOps_sound (O := O) hT (B := B) (ops := ops) (Q := post B Q) (fun a w s hr hk => ⟨s, hr, hk⟩) l 0 s' a w (fun i x hx => ?_) (by omega) (fun x hx t ht => ?_) h' hr'
      · simpa [hlen'] using this
      · have hi : i < ops.size := by rw [← hlen']; exact (List.getElem?_eq_some_iff.1 hx).1
        obtain ⟨y, hy, hay⟩ := hget i ops[i] (by simp [hi])
        rw [hx] at hy
        cases hy
        exact ⟨ops[i], by simp [hi], hay⟩
      · obtain ⟨i, hi⟩ := List.mem_iff_getElem?.1 hx
        rw [hN]
        exact dstsOK_get hd i x hi t ht
    · obtain ⟨s', h', hr'⟩ := frzs_rel h hr
      exact draw_sound hT hm hN hs h' hr'
  | .seq c d, ac, hs, Q, s, h, B, w, a, hN, hr => by
    simp only [strip] at hs
    cases hx : strip N G c with
    | none => rw [hx] at hs; cases hs
    | some x =>
      cases hy : strip N G d with
      | none => rw [hx, hy] at hs; cases hs
      | some y =>
        rw [hx, hy] at hs
        simp only [Option.bind_some, Option.map_some, Option.some.injEq] at hs
        subst hs
        refine wp_seq (wp_mono (vc_sound hm c x hx _ s h B w a hN hr) ?_)
        intro e a' w' hp
        cases e with
        | normal =>
          obtain ⟨s', hr', hq⟩ := hp
          exact vc_sound hm d y hy Q s' hq B w' a' hN hr'
        | exit id => exact hp
        | ret => exact hp
        | _ => exact hp.elim
  | .cond t c d, ac, hs, Q, s, h, B, w, a, hN, hr => by
    simp only [strip] at hs
    cases hx : strip N G c with
    | none => rw [hx] at hs; cases hs
    | some x =>
      cases hy : strip N G d with
      | none => rw [hx, hy] at hs; cases hs
      | some y =>
        rw [hx, hy] at hs
        simp only [Option.bind_some, Option.map_some, Option.some.injEq] at hs
        subst hs
        obtain ⟨μ, hrel⟩ := hr
        have hev := rep_ev hrel t
        simp only [vc, CondK] at h
        split at h
        · rename_i b hb
          rw [hb] at hev
          exact wp_cond_split hev.one.1 (fun hbt => vc_sound hm c x hx Q s (h.1 hbt) B w a hN ⟨μ, hrel⟩) (fun hbf => vc_sound hm d y hy Q s (h.2 hbf) B w a hN ⟨μ, hrel⟩)
        · rename_i g b hb
          rw [hb] at hev
          obtain ⟨hg, h1, h2⟩ := h
          exact wp_cond_split (hev.maybeOf hg).one.1 (fun hbt => vc_sound hm c x hx Q s (h1 hbt) B w a hN ⟨μ, hrel⟩) (fun hbf => vc_sound hm d y hy Q s (h2 hbf) B w a hN ⟨μ, hrel⟩)
        · exact h.elim
  | .block id c, ac, hs, Q, s, h, B, w, a, hN, hr => by
    simp only [strip] at hs
    cases hx : strip N G c with
    | none => rw [hx] at hs; cases hs
    | some x =>
      rw [hx] at hs
      simp only [Option.map_some, Option.some.injEq] at hs
      subst hs
      refine wp_block (wp_mono (vc_sound hm c x hx _ s h B w a hN hr) ?_)
      intro e a' w' hp
      cases e with
      | normal => exact hp
      | exit id' =>
        obtain ⟨s', hr', hq⟩ := hp
        simp only [blockQ] at hq
        simp only [Exit.inBlock]
        by_cases e : id' = id
        · rw [if_pos e] at hq ⊢
          exact ⟨s', hr', hq⟩
        · rw [if_neg e] at hq ⊢
          exact ⟨s', hr', hq⟩
      | ret => exact hp
      | _ => exact hp.elim
  | .loop c, ac, hs, Q, s, h, B, w, a, hN, hr => by
    simp only [strip] at hs
    cases hx : strip N G c with
    | none => rw [hx] at hs; cases hs
    | some x =>
      rw [hx] at hs
      simp only [Option.map_some, Option.some.injEq] at hs
      subst hs
      obtain ⟨ids, h⟩ := h
      obtain ⟨s0, ⟨ι, I, m, ⟨i0, hi0⟩, hround⟩, hr⟩ := frzs_rel h hr
      -- the measure is of the least index that fits
      let J : Nat → Act → World → Prop := fun n a w => ∃ i, m i = n ∧ Rel B w a (I i)
      have key : ∀ n a w, J n a w → ∀ (b : Frame) (k : List Item) (cs : List Frame), ∃ e a' w', post B Q e a' w' ∧ Arrives P (lone (b.at a (.code c :: .inLoop c :: k)) cs w) b k cs e a' w' := by
        intro n
        induction n using Nat.strongRecOn with
        | _ n ih =>
          intro a w hJ b k cs
          obtain ⟨i, hmi, hri⟩ := hJ
          have hb := vc_sound hm c x hx _ _ (hround i) B w a hN hri
          obtain ⟨e, a₁, w₁, hq, harr⟩ := hb b (.inLoop c :: k) cs
          cases e with
          | normal =>
            obtain ⟨s1, hr1, ids, hz⟩ := hq
            obtain ⟨s', ⟨j, hle, hlt⟩, hr'⟩ := frzs_rel hz hr1
            obtain ⟨e₂, a₂, w₂, hq₂, harr₂⟩ := ih (m j) (hmi ▸ hlt) a₁ w₁ ⟨j, rfl, le_rel hle hr'⟩ b k cs
            exact ⟨e₂, a₂, w₂, hq₂, .of_steps (Go.Steps.trans harr (.one step_inLoop)) harr₂⟩
          | exit id => exact ⟨.exit id, a₁, w₁, hq, .pass (x := .inLoop c) rfl (fun _ _ => .inl (by simp)) harr⟩
          | ret => exact ⟨.ret, a₁, w₁, hq, .pass (x := .inLoop c) rfl (fun _ _ => .inl (by simp)) harr⟩
          | _ => exact hq.elim
      intro b k cs
      obtain ⟨e, a', w', hq, harr⟩ := key (m i0) a w ⟨i0, rfl, le_rel hi0 hr⟩ b k cs
      exact ⟨e, a', w', hq, .of_steps (.one step_loop) harr⟩
  | .exit id, ac, hs, Q, s, h, B, w, a, hN, hr => by
    simp only [strip, Option.some.injEq] at hs; subst hs
    exact wp_exit ⟨s, hr, h⟩
  | .ret, ac, hs, Q, s, h, B, w, a, hN, hr => by
    simp only [strip, Option.some.injEq] at hs; subst hs
    exact wp_ret ⟨s, hr, h⟩
  | .rangeFunc _ _ _ _, ac, hs, _, _, _, _, _, _, _, _ => by simp [strip] at hs
  | .scope _, ac, hs, _, _, _, _, _, _, _, _ => by simp [strip] at hs
  | .label _, ac, hs, _, _, _, _, _, _, _, _ => by simp [strip] at hs
  | .goto _, ac, hs, _, _, _, _, _, _, _, _ => by simp [strip] at hs
  | .refuse _, ac, hs, _, _, _, _, _, _, _, _ => by simp [strip] at hs


/-! ### functions -/
def envOf (k : Nat) : List AV → List (Nat × AV)
  | [] => []
  | a :: l => (k, a) :: envOf (k + 1) l

theorem get_envOf : ∀ (l : List AV) (k t : Nat), get (envOf k l) t = if k ≤ t then l.getD (t - k) .junk else .junk
  | [], k, t => by simp [envOf, get]
  | a :: l, k, t => by
    simp only [envOf, get]
    rw [get_envOf l (k + 1) t]
    by_cases h : t = k
    · simp [h]
    · by_cases h2 : k ≤ t
      · have e : t - k = (t - (k + 1)) + 1 := by omega
        rw [if_neg h, if_pos (by omega), if_pos h2, e]
        simp
      · rw [if_neg h, if_neg (by omega), if_neg h2]

/-- The results: what is asked, and what they are. -/
def resL (T : TT) (s : St) : List ResultVar → Prop
  | [] => True
  | .tmp _ :: l => resL T s l
  | .cell x t :: l => (loadE T s.mem t (get s.env x)).pre ∧ resL T s l

def resV (T : TT) (s : St) : List ResultVar → List AV
  | [] => []
  | .tmp t :: l => get s.env t :: resV T s l
  | .cell x t :: l => (loadE T s.mem t (get s.env x)).val :: resV T s l

def resA (l : List AV) : AV :=
  match l with
  | [a] => a
  | l => .tup l

/-- What is asked at a function's end. -/
def Fin (T : TT) (rs : List ResultVar) (r : AV) : AExit → St → Prop
  | .exit _, _ => False
  | _, s => PreK (resL T s rs ∧ snapOK s.mem (resA (resV T s rs))) (snap s.mem (resA (resV T s rs)) = r)

def resOf (tmps : Array Value) : ResultVar → Sem Value
  | .tmp t => pure (tmps.getD t undef)
  | .cell a t => do loadVar t (← asAddr (tmps.getD a undef))

theorem results_eq (fn : Func) (tmps : Array Value) : results fn tmps = (do
    let vs ← fn.results.mapM (resOf tmps)
    pure (if h : vs.size = 1 then vs[0] else .tuple vs)) := rfl

include hT in
theorem run_results {B : Base} {w : World} {a : Act} {s : St} {μ : Mu} (h : RelM B w a s μ) : ∀ (rs : List ResultVar), resL T s rs →
    ∃ vs : List Value, (rs.mapM (resOf a.tmps)).run P w = .ok vs w ∧ vs.length = rs.length ∧
      ∀ i, i < rs.length → Rep w (Yof B.X μ) μ ((resV T s rs).getD i .junk) (vs.getD i undef)
  | [], _ => ⟨[], by simp, rfl, by simp⟩
  | .tmp t :: l, hl => by
    obtain ⟨vs, hr, hlen, hrep⟩ := run_results h l hl
    refine ⟨a.tmps.getD t undef :: vs, by simp only [List.mapM_cons, resOf, Sem.run_bind, Sem.run_pure, Result.andThen_ok, hr], by simp [hlen], fun i hi => ?_⟩
    cases i with
    | zero => simpa [resV] using h.env t
    | succ i => simpa [resV] using hrep i (by simpa using hi)
  | .cell x t :: l, hl => by
    obtain ⟨hp, hl⟩ := hl
    obtain ⟨vs, hr, hlen, hrep⟩ := run_results h l hl
    obtain ⟨p, v, hpv, hrun, hv⟩ := loadE_run hT h (h.env x) hp
    have hload : (do loadVar t (← asAddr (a.tmps.getD x undef)) : Sem Value).run P w = .ok v w := by
      rw [hpv] at hrun ⊢
      simpa [Instr.loadAt, Instr.sureAddr, asAddr] using hrun
    refine ⟨v :: vs, by simp only [List.mapM_cons, resOf, Sem.run_bind, Sem.run_bind .. ▸ hload, Sem.run_pure, Result.andThen_ok, hr], by simp [hlen], fun i hi => ?_⟩
    cases i with
    | zero => simpa [resV] using hv
    | succ i => simpa [resV] using hrep i (by simpa using hi)

theorem resV_length {s : St} : ∀ {rs : List ResultVar}, (resV T s rs).length = rs.length
  | [] => rfl
  | .tmp _ :: l => by simp [resV, resV_length]
  | .cell _ _ :: l => by simp [resV, resV_length]

include hT in
/-- What is shown of a function's code is its contract. -/
theorem callP_of_vc (hm : P.follows .mixedOrders = true) {f : FuncId} {fn : Func} {c : Code} {ac : ACode} {args : List AV} {r : AV} {G : Nat → List Nat} (hf : P.funcs[f]? = some fn) (hb : fn.body = some c) (hname : fn.name ≠ "runtime.NumGoroutine")
    (hs : strip fn.ntmps G c = some ac) (hn : args.length ≤ fn.ntmps) (h : vc P T O ac (Fin T fn.results.toList r) ⟨envOf 0 args, []⟩) : CallP P f args r := by
  refine ⟨⟨fn, hf, hname, by rw [hb]; simp⟩, fun w X vs hX hlen hargs => ?_⟩
  let B : Base := ⟨w, X, Noblk, fn.ntmps, Mu.none, []⟩
  have hrel : Rel B w { tmps := vs ++ Array.replicate (fn.ntmps - vs.size) undef, defers := [] } ⟨envOf 0 args, []⟩ := by
    refine ⟨Mu.none, rfl, by simp [B, hlen]; omega, ⟨fun _ _ => rfl, fun id b hfd => by simp [find] at hfd, fun _ _ _ _ _ _ _ h => (by cases h), ?_⟩, fun t => ?_, Ext.refl _ _, ?_, fun b hb => ⟨hX b hb, fun h => h⟩, fun _ _ _ h => by cases h⟩
    · rintro g ⟨_, _, _, h, _⟩; cases h
    · have hY : ∀ q, ¬ X q → q < w.heap.size → ¬ Yof B.X Mu.none q ∧ w.heap[q]? = w.heap[q]? := by
        intro q hq _
        refine ⟨fun hy => ?_, rfl⟩
        rcases hy with hx | ⟨_, _, _, h, _⟩
        · exact hq hx
        · cases h
      rw [get_envOf, if_pos (Nat.zero_le _), Nat.sub_zero]
      by_cases ht : t < args.length
      · have := hargs t ht
        have e : (vs ++ Array.replicate (fn.ntmps - vs.size) undef).getD t undef = vs.getD t undef := by
          simp only [Array.getD_eq_getD_getElem?]
          rw [Array.getElem?_append_left (by omega)]
        rw [e]
        exact this.mono hY (Mu.later.refl _)
      · have : args.getD t .junk = .junk := by simp [List.getD_eq_getElem?_getD, List.getElem?_eq_none (Nat.le_of_not_lt ht)]
        rw [this]
        exact .junk
    · rintro g ⟨_, _, _, h, _⟩; cases h
  refine calls_of_wp hf hb (wp_mono (vc_sound hT hm c ac hs _ _ h B w _ rfl hrel) ?_)
  have fin : ∀ a' w' s', Rel B w' a' s' → PreK (resL T s' fn.results.toList ∧ snapOK s'.mem (resA (resV T s' fn.results.toList))) (snap s'.mem (resA (resV T s' fn.results.toList)) = r) →
      a'.defers = [] ∧ ∃ v, (results fn a'.tmps).run P w' = .ok v w' ∧ ∃ u, Ending.returned v = .returned u ∧ Grows w w' ∧ Rep w' X Mu.none r u := by
    rintro a' w' s' ⟨μ, hr⟩ ⟨⟨hl, hsn⟩, heq⟩
    obtain ⟨vl, hrun, hvl, hrep⟩ := run_results hT hr fn.results.toList hl
    have hrun2 : (results fn a'.tmps).run P w' = .ok (if h : vl.length = 1 then vl[0]'(by omega) else .tuple vl.toArray) w' := by
      rw [results_eq, Sem.run_bind, Array.mapM_eq_mapM_toList, Sem.run_map, hrun]
      simp only [Result.andThen_ok, Sem.run_pure, List.size_toArray, List.getElem_toArray]
    refine ⟨hr.defers, _, hrun2, _, rfl, ⟨hr.ext.os, hr.ext.tape, hr.ext.output, hr.ext.size, fun b hb => hr.ext.old b hb (fun h => h)⟩, ?_⟩
    rw [← heq]
    refine rep_snap (Y := Yof B.X μ) ?_ (fun b hy hx => hy (.inl hx)) hr.inv hsn
    have hlen2 : (resV T s' fn.results.toList).length = vl.length := by rw [resV_length, hvl]
    by_cases h1 : vl.length = 1
    · rw [dif_pos h1]
      cases hq : resV T s' fn.results.toList with
      | nil => rw [hq] at hlen2; simp at hlen2; omega
      | cons x l =>
        cases l with
        | nil =>
          have := hrep 0 (by omega)
          rw [hq] at this
          simp only [resA]
          simpa [List.getD_eq_getElem?_getD, h1] using this
        | cons y l => rw [hq] at hlen2; simp at hlen2; omega
    · rw [dif_neg h1]
      have hra : resA (resV T s' fn.results.toList) = .tup (resV T s' fn.results.toList) := by
        cases hq : resV T s' fn.results.toList with
        | nil => rfl
        | cons x l =>
          cases l with
          | nil => rw [hq] at hlen2; simp at hlen2; omega
          | cons y l => rfl
      rw [hra]
      refine .tup (by simp [hlen2]) fun i hi => ?_
      have := hrep i (by rw [resV_length] at hi; exact hi)
      simpa [Array.getD_eq_getD_getElem?, List.getD_eq_getElem?_getD] using this
  intro e a' w' hp
  cases e with
  | normal =>
    obtain ⟨s', hr, hq⟩ := hp
    exact fin a' w' s' hr hq
  | ret =>
    obtain ⟨s', hr, hq⟩ := hp
    exact fin a' w' s' hr hq
  | exit id =>
    obtain ⟨s', hr, hq⟩ := hp
    exact hq.elim
  | _ => exact hp.elim

end
end Go.Abs
end
