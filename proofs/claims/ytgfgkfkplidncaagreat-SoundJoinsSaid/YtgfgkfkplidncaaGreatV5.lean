/- Part 5 of the proof: the value layer and the contracts of the functions that the statement reaches; proved without conditions beyond those each theorem states. -/
import Derived.Test.YtgfgkfkplidncaaGreatV3
import Derived.Test.YtgfgkfkplidncaaGreatV4
set_option linter.unusedSimpArgs false
set_option linter.unusedVariables false

section
/- The value layer, part 34: functions whose boxes become immutable at the end. -/
namespace Go.Abs

section
variable {P : Program} {T : TT} (hT : TOK P T) {O : List Nat}

def FinF (T : TT) (rs : List ResultVar) (r : AV) : AExit → St → Prop
  | .exit _, _ => False
  | _, s => ∃ ids, frzs ids (fun s' => PreK (resL T s' rs ∧ snapOK s'.mem (resA (resV T s' rs))) (snap s'.mem (resA (resV T s' rs)) = r)) s

include hT in
/-- Own boxes may become immutable at the end. -/
theorem callPF_of_vc (hm : P.follows .mixedOrders = true) {f : FuncId} {fn : Func} {c : Code} {ac : ACode} {args : List AV} {r : AV} {G : Nat → List Nat} (hf : P.funcs[f]? = some fn) (hb : fn.body = some c) (hname : fn.name ≠ "runtime.NumGoroutine")
    (hs : strip fn.ntmps G c = some ac) (hn : args.length ≤ fn.ntmps) (h : vc P T O ac (FinF T fn.results.toList r) ⟨envOf 0 args, []⟩) : CallP P f args r := by
  refine ⟨⟨fn, hf, hname, by rw [hb]; simp⟩, fun w X vs hX hlen hargs => ?_⟩
  let B : Base := ⟨w, X, Noblk, fn.ntmps, Mu.none, []⟩
  have hrel : Rel B w { tmps := vs ++ Array.replicate (fn.ntmps - vs.size) undef, defers := [] } ⟨envOf 0 args, []⟩ := by
    refine ⟨Mu.none, rfl, by simp [B, hlen]; omega, ⟨fun _ _ => rfl, fun id b hfd => by simp [find] at hfd, fun _ _ _ _ _ _ _ h => (by cases h), ?_⟩, fun t => ?_, Ext.refl _ _, ?_, fun b hb => ⟨hX b hb, fun h => h⟩, fun _ _ _ h => by cases h⟩
    · rintro g ⟨_, _, _, h, _⟩; cases h
    · have hY : ∀ q, ¬ X q → q < w.heap.size → ¬ Yof B.X Mu.none q ∧ w.heap[q]? = w.heap[q]? := by
        intro q hq _
        refine ⟨fun hy => ?_, rfl⟩
        rcases hy with hx | ⟨_, _, _, h, _⟩
        · exact hq hx
        · cases h
      rw [get_envOf, if_pos (Nat.zero_le _), Nat.sub_zero]
      by_cases ht : t < args.length
      · have := hargs t ht
        have e : (vs ++ Array.replicate (fn.ntmps - vs.size) undef).getD t undef = vs.getD t undef := by
          simp only [Array.getD_eq_getD_getElem?]
          rw [Array.getElem?_append_left (by omega)]
        rw [e]
        exact this.mono hY (Mu.later.refl _)
      · have : args.getD t .junk = .junk := by simp [List.getD_eq_getElem?_getD, List.getElem?_eq_none (Nat.le_of_not_lt ht)]
        rw [this]
        exact .junk
    · rintro g ⟨_, _, _, h, _⟩; cases h
  refine calls_of_wp hf hb (wp_mono (vc_sound hT hm c ac hs _ _ h B w _ rfl hrel) ?_)
  have fin : ∀ a' w' s', Rel B w' a' s' → PreK (resL T s' fn.results.toList ∧ snapOK s'.mem (resA (resV T s' fn.results.toList))) (snap s'.mem (resA (resV T s' fn.results.toList)) = r) →
      a'.defers = [] ∧ ∃ v, (results fn a'.tmps).run P w' = .ok v w' ∧ ∃ u, Ending.returned v = .returned u ∧ Grows w w' ∧ Rep w' X Mu.none r u := by
    rintro a' w' s' ⟨μ, hr⟩ ⟨⟨hl, hsn⟩, heq⟩
    obtain ⟨vl, hrun, hvl, hrep⟩ := run_results hT hr fn.results.toList hl
    have hrun2 : (results fn a'.tmps).run P w' = .ok (if h : vl.length = 1 then vl[0]'(by omega) else .tuple vl.toArray) w' := by
      rw [results_eq, Sem.run_bind, Array.mapM_eq_mapM_toList, Sem.run_map, hrun]
      simp only [Result.andThen_ok, Sem.run_pure, List.size_toArray, List.getElem_toArray]
    refine ⟨hr.defers, _, hrun2, _, rfl, ⟨hr.ext.os, hr.ext.tape, hr.ext.output, hr.ext.size, fun b hb => hr.ext.old b hb (fun h => h)⟩, ?_⟩
    rw [← heq]
    refine rep_snap (Y := Yof B.X μ) ?_ (fun b hy hx => hy (.inl hx)) hr.inv hsn
    have hlen2 : (resV T s' fn.results.toList).length = vl.length := by rw [resV_length, hvl]
    by_cases h1 : vl.length = 1
    · rw [dif_pos h1]
      cases hq : resV T s' fn.results.toList with
      | nil => rw [hq] at hlen2; simp at hlen2; omega
      | cons x l =>
        cases l with
        | nil =>
          have := hrep 0 (by omega)
          rw [hq] at this
          simp only [resA]
          simpa [List.getD_eq_getElem?_getD, h1] using this
        | cons y l => rw [hq] at hlen2; simp at hlen2; omega
    · rw [dif_neg h1]
      have hra : resA (resV T s' fn.results.toList) = .tup (resV T s' fn.results.toList) := by
        cases hq : resV T s' fn.results.toList with
        | nil => rfl
        | cons x l =>
          cases l with
          | nil => rw [hq] at hlen2; simp at hlen2; omega
          | cons y l => rfl
      rw [hra]
      refine .tup (by simp [hlen2]) fun i hi => ?_
      have := hrep i (by rw [resV_length] at hi; exact hi)
      simpa [Array.getD_eq_getD_getElem?, List.getD_eq_getElem?_getD] using this
  intro e a' w' hp
  cases e with
  | normal =>
    obtain ⟨s1, hr1, ids, hz⟩ := hp
    obtain ⟨s', hq, hr⟩ := frzs_rel hz hr1
    exact fin a' w' s' hr hq
  | ret =>
    obtain ⟨s1, hr1, ids, hz⟩ := hp
    obtain ⟨s', hq, hr⟩ := frzs_rel hz hr1
    exact fin a' w' s' hr hq
  | exit id =>
    obtain ⟨s', hr, hq⟩ := hp
    exact hq.elim
  | _ => exact hp.elim

end

theorem callPF_of {P : Program} {T : TT} {O : List Nat} (hT : TOK P T) (hm : P.follows .mixedOrders = true) {f : FuncId} {fn : Func} {ac : ACode} {args : List AV} {r : AV} {N : Nat} {G : Nat → List Nat} {rs : List ResultVar}
    (hf : P.funcs[f]? = some fn) (hname : (fn.name == "runtime.NumGoroutine") = false) (hr : fn.results.toList = rs) (hN : fn.ntmps = N) (hs : fn.body.bind (strip N G) = some ac) (hn : args.length ≤ N)
    (h : vc P T O ac (FinF T rs r) ⟨envOf 0 args, []⟩) : CallP P f args r := by
  cases hb : fn.body with
  | none => rw [hb] at hs; cases hs
  | some c =>
    rw [hb] at hs
    subst hN hr
    exact callPF_of_vc hT hm hf hb (fun e => by rw [e] at hname; simp at hname) hs hn h
mutual
/-- A result of which no slice is told to be full. -/
def weakR : AV → AV
  | .ipt e o => .ipt (weak e) o
  | .tup l => .tup (weakRL l)
  | a => weak a
def weakRL : List AV → List AV
  | [] => []
  | a :: l => weakR a :: weakRL l
end
theorem weakRL_length : ∀ l : List AV, (weakRL l).length = l.length
  | [] => rfl
  | a :: l => by simp [weakRL, weakRL_length l]
theorem weakRL_get : ∀ {l : List AV} {i : Nat}, i < l.length → (weakRL l).getD i .junk = weakR (l.getD i .junk)
  | a :: l, 0, _ => by simp [weakRL]
  | a :: l, i + 1, h => by simpa [weakRL] using weakRL_get (l := l) (i := i) (by simpa using h)
theorem weak_elem (e : AV) (n : Nat) (c : Array Value) (o : Nat) : elemVal (weak e) n c o = elemVal e n c o := by
  cases e <;> rfl
theorem Rep.weakR {w : World} {Y : Nat → Prop} {μ : Mu} {a : AV} {v : Value} (h : Rep w Y μ a v) : Rep w Y μ (Abs.weakR a) v := by
  induction h with
  | ipt hY hb hfit h1 h ih =>
    simp only [Abs.weakR]
    refine .ipt hY hb (by rw [weak_width]; exact hfit) (fun j hj hj2 => h1 j hj (by rwa [weak_width] at hj2)) ?_
    rw [weak_elem, weak_width]
    exact h.weak
  | tup hs h ih =>
    simp only [Abs.weakR]
    refine .tup (by rw [weakRL_length]; exact hs) fun i hi => ?_
    rw [weakRL_length] at hi
    rw [weakRL_get hi]
    exact ih i hi
  | raw h => exact (Rep.raw h).weak
  | agg hs h1 h _ => exact (Rep.agg hs h1 h).weak
  | @nil μ sz full p => exact (Rep.nil (full := full)).weak
  | seq hY hb hc hf hbig hfit hw h1 h _ => exact (Rep.seq hY hb hc hf hbig hfit hw h1 h).weak
  | pt hm hv hb hz => exact (Rep.pt hm hv hb hz).weak
  | ptOld hm hv => exact (Rep.ptOld hm hv).weak
  | slNil hm hv hnf => exact (Rep.slNil hm hv hnf).weak
  | sl hm hv hb hc hfit hz => exact (Rep.sl hm hv hb hc hfit hz).weak
  | slOld hm hv => exact (Rep.slOld hm hv).weak
  | fn hs ht h k _ _ => exact (Rep.fn hs ht h k).weak
  | mp hm hv hb hz => exact (Rep.mp hm hv hb hz).weak
  | mpOld hm hv => exact (Rep.mpOld hm hv).weak
  | map hY hb hs hbig h _ => exact (Rep.map hY hb hs hbig h).weak
  | maybe h0 h _ => exact (Rep.maybe h0 h).weak
  | junk => exact Rep.junk.weak
theorem CallP.weakR {P : Program} {f : FuncId} {args : List AV} {r : AV} (h : CallP P f args r) : CallP P f args (Abs.weakR r) :=
  ⟨h.1, fun w X vs hX hlen hargs => (h.2 w X vs hX hlen hargs).mono fun _ _ ⟨v, he, hg, hr⟩ => ⟨v, he, hg, hr.weakR⟩⟩
@[simp] theorem isCall_makeMap (t : Nat) (r : Option Operand) : isCall (.makeMap t r) = none := Eq.trans rfl rfl
@[simp] theorem isNilCmp_makeMap (t : Nat) (r : Option Operand) : isNilCmp (.makeMap t r) = none := Eq.trans rfl rfl
@[simp] theorem isBS_makeMap (t : Nat) (r : Option Operand) : isBS (.makeMap t r) = false := Eq.trans rfl rfl
@[simp] theorem isCall_mapUpdate (t : Nat) (x k v : Operand) : isCall (.mapUpdate t x k v) = none := Eq.trans rfl rfl
@[simp] theorem isNilCmp_mapUpdate (t : Nat) (x k v : Operand) : isNilCmp (.mapUpdate t x k v) = none := Eq.trans rfl rfl
@[simp] theorem isBS_mapUpdate (t : Nat) (x k v : Operand) : isBS (.mapUpdate t x k v) = false := Eq.trans rfl rfl
@[simp] theorem isCall_insert (t : Nat) (x k v : Operand) : isCall (.insert t x k v) = none := Eq.trans rfl rfl
@[simp] theorem isNilCmp_insert (t : Nat) (x k v : Operand) : isNilCmp (.insert t x k v) = none := Eq.trans rfl rfl
@[simp] theorem isBS_insert (t : Nat) (x k v : Operand) : isBS (.insert t x k v) = false := Eq.trans rfl rfl
@[simp] theorem isCall_lookup (t : Nat) (x k : Operand) (ok : Bool) : isCall (.lookup t x k ok) = none := Eq.trans rfl rfl
@[simp] theorem isNilCmp_lookup (t : Nat) (x k : Operand) (ok : Bool) : isNilCmp (.lookup t x k ok) = none := Eq.trans rfl rfl
@[simp] theorem isBS_lookup (t : Nat) (x k : Operand) (ok : Bool) : isBS (.lookup t x k ok) = false := Eq.trans rfl rfl
@[simp] theorem isMv_makeMap (t : Nat) (r : Option Operand) : isMv (.makeMap t r) = false := Eq.trans rfl rfl
@[simp] theorem isMv_mapUpdate (t : Nat) (x k v : Operand) : isMv (.mapUpdate t x k v) = false := Eq.trans rfl rfl
@[simp] theorem isMv_insert (t : Nat) (x k v : Operand) : isMv (.insert t x k v) = false := Eq.trans rfl rfl
@[simp] theorem isMv_lookup (t : Nat) (x k : Operand) (ok : Bool) : isMv (.lookup t x k ok) = false := Eq.trans rfl rfl
attribute [simp] mfind mput entW keysOK KK.fits
end Go.Abs
end

section
/- The value layer, part 39 (behind 34): the end of a function whose result owns boxes. -/
namespace Go.Abs

/-- What is asked of the boxes at the end. -/
def matM (m m0 : List (Nat × Option Box)) : List (Nat × Option Box) → Prop
  | [] => True
  | (c, x) :: l => (match find m c, x with
    | some b', some b => b.ver = b'.ver ∧ 0 < b.ver ∧ b.sz = b'.sz ∧ b.var = b'.var ∧ b.els = (if b'.var then renL (shf 0 m0) b'.els else b'.els)
    | _, _ => False) ∧ matM m m0 l
section
variable {P : Program} {T : TT} {O : List Nat} (hT : TOK P T)
def FinM (T : TT) (rs : List ResultVar) (r : AV) (m' : List (Nat × Option Box)) : AExit → St → Prop
  | .exit _, _ => False
  | _, s => ∃ ids, frzs ids (fun s' => PreK (resL T s' rs ∧ matM s'.mem m' m') (renA (shf 0 m') (resA (resV T s' rs)) = r)) s

end
attribute [simp] matM FinM shf shB shM
end Go.Abs
end
