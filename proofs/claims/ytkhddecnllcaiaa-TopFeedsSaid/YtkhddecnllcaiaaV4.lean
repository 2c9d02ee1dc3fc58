/- Part 4 of the proof: the value layer and the contracts of the functions that the statement reaches; proved without conditions beyond those each theorem states. -/
import Derived.Laws.StructEq
import Derived.Test.YtkhddecnllcaiaaV3
set_option linter.unusedSimpArgs false
set_option linter.unusedVariables false

section
/- The value layer, part 27: the contracts of functions whose result is owned, and of functions to which a box is lent. -/
namespace Go.Abs

section
variable {P : Program} {T : TT} (hT : TOK P T) {O : List Nat}

include hT in
/-- A call's run, from what is shown of its code. -/
theorem calls_of_vc (hm : P.follows .mixedOrders = true) {f : FuncId} {fn : Func} {c : Code} {ac : ACode} {G : Nat → List Nat} (hf : P.funcs[f]? = some fn) (hb : fn.body = some c)
    (hs : strip fn.ntmps G c = some ac) {B : Base} (hB : B.N = fn.ntmps) (hB2 : B.dfs = []) {w : World} {vs : Array Value} {s : St} (hrel : Rel B w { tmps := vs ++ Array.replicate (fn.ntmps - vs.size) undef, defers := [] } s) {Q : AExit → St → Prop} (h : vc P T O ac Q s)
    {Post : Ending → World → Prop} (hno : ∀ id s', ¬ Q (.exit id) s') (hfin : ∀ a' w' s', Rel B w' a' s' → (Q .normal s' ∨ Q .ret s') → ∃ v, (results fn a'.tmps).run P w' = .ok v w' ∧ Post (.returned v) w') : Calls P f vs w Post := by
  refine calls_of_wp hf hb (wp_mono (vc_sound hT hm c ac hs _ _ h B w _ hB hrel) ?_)
  intro e a' w' hp
  cases e with
  | normal =>
    obtain ⟨s', hr, hq⟩ := hp
    obtain ⟨v, h1, h2⟩ := hfin a' w' s' hr (.inl hq)
    obtain ⟨μ, hr⟩ := hr
    exact ⟨hr.defers.trans hB2, v, h1, h2⟩
  | ret =>
    obtain ⟨s', hr, hq⟩ := hp
    obtain ⟨v, h1, h2⟩ := hfin a' w' s' hr (.inr hq)
    obtain ⟨μ, hr⟩ := hr
    exact ⟨hr.defers.trans hB2, v, h1, h2⟩
  | exit id =>
    obtain ⟨s', hr, hq⟩ := hp
    exact (hno _ _ hq).elim
  | _ => exact hp.elim

/-- What is asked at the end of a function whose result is owned. -/
def OwnK (m : List (Nat × Option Box)) (sz : Nat) (els : List AV) : AV → Prop
  | .sl id ver off len => match find m id with
    | some b => b.ver = ver ∧ b.var = false ∧ b.sz = sz ∧ off + len ≤ b.els.length ∧ rng b.els off len = els
    | none => False
  | .seq _ [] true => els = []
  | _ => False
def FinO (rs : List ResultVar) (sz : Nat) (els : List AV) : AExit → St → Prop
  | .exit _, _ => False
  | _, s => match rs with
    | [.tmp t] => OwnK s.mem sz els (get s.env t)
    | _ => False

omit hT in
theorem rel_of_args {w : World} {X : Nat → Prop} {vs : Array Value} {N : Nat} {args : List AV} (hX : ∀ b, X b → b < w.heap.size) (hlen : vs.size = args.length) (hargs : ∀ i, i < args.length → Rep w X Mu.none (args.getD i .junk) (vs.getD i undef)) (hn : args.length ≤ N) :
    Rel ⟨w, X, Noblk, N, Mu.none, []⟩ w { tmps := vs ++ Array.replicate (N - vs.size) undef, defers := [] } ⟨envOf 0 args, []⟩ := by
  refine ⟨Mu.none, rfl, by simp [hlen]; omega, ⟨fun _ _ => rfl, fun id b hfd => by simp [find] at hfd, fun _ _ _ _ _ _ _ h => (by cases h), ?_⟩, fun t => ?_, Ext.refl _ _, ?_, fun b hb => ⟨hX b hb, fun h => h⟩, fun _ _ _ h => by cases h⟩
  · rintro g ⟨_, _, _, h, _⟩; cases h
  · have hY : ∀ q, ¬ X q → q < w.heap.size → ¬ Yof X Mu.none q ∧ w.heap[q]? = w.heap[q]? := by
      intro q hq _
      refine ⟨fun hy => ?_, rfl⟩
      rcases hy with hx | ⟨_, _, _, h, _⟩
      · exact hq hx
      · cases h
    rw [get_envOf, if_pos (Nat.zero_le _), Nat.sub_zero]
    by_cases ht : t < args.length
    · have := hargs t ht
      have e : (vs ++ Array.replicate (N - vs.size) undef).getD t undef = vs.getD t undef := by
        simp only [Array.getD_eq_getD_getElem?]
        rw [Array.getElem?_append_left (by omega)]
      rw [e]
      exact this.mono hY (Mu.later.refl _)
    · have : args.getD t .junk = .junk := by simp [List.getD_eq_getElem?_getD, List.getElem?_eq_none (Nat.le_of_not_lt ht)]
      rw [this]
      exact .junk
  · rintro g ⟨_, _, _, h, _⟩; cases h

theorem results_one {fn : Func} {t : Nat} (h : fn.results.toList = [.tmp t]) (tmps : Array Value) (w : World) : (results fn tmps).run P w = .ok (tmps.getD t undef) w := by
  rw [results_eq, Sem.run_bind, Array.mapM_eq_mapM_toList, Sem.run_map, h]
  simp [resOf]

/-- The end of a function of two results, the first of which the caller owns. -/
def FinT (rs : List ResultVar) (sz : Nat) (els : List AV) (u : Value) : AExit → St → Prop
  | .exit _, _ => False
  | _, s => match rs with
    | [.tmp t, .tmp t'] => OwnK s.mem sz els (get s.env t) ∧ get s.env t' = .raw u
    | _ => False
include hT in
theorem callO_of_vc (hm : P.follows .mixedOrders = true) {f : FuncId} {fn : Func} {ac : ACode} {args : List AV} {G : Nat → List Nat} {rs : List ResultVar} {N sz : Nat} {els : List AV} (hf : P.funcs[f]? = some fn) (hname : (fn.name == "runtime.NumGoroutine") = false)
    (hr : fn.results.toList = rs) (hN : fn.ntmps = N) (hs : fn.body.bind (strip N G) = some ac) (hn : args.length ≤ N) (h : vc P T O ac (FinO rs sz els) ⟨envOf 0 args, []⟩) : CallO P f args sz els := by
  cases hb : fn.body with
  | none => rw [hb] at hs; cases hs
  | some c =>
  rw [hb] at hs
  subst hN hr
  refine ⟨⟨fn, hf, (fun e => by rw [e] at hname; simp at hname), by rw [hb]; simp⟩, fun w X vs hX hlen hargs => ?_⟩
  refine calls_of_vc hT hm hf hb hs (B := ⟨w, X, Noblk, fn.ntmps, Mu.none, []⟩) rfl rfl (rel_of_args hX hlen hargs hn) h (fun id s' hq => hq) ?_
  intro a' w' s' hrel hq
  have hq' : match fn.results.toList with | [.tmp t] => OwnK s'.mem sz els (get s'.env t) | _ => False := by rcases hq with hq | hq <;> exact hq
  split at hq'
  · rename_i t hres
    obtain ⟨μ, hrel⟩ := hrel
    refine ⟨_, results_one hres a'.tmps w', _, rfl, ⟨hrel.ext.os, hrel.ext.tape, hrel.ext.output, hrel.ext.size, fun b hb => hrel.ext.old b hb (fun h => h)⟩, ?_⟩
    have hrep := hrel.env t
    unfold OwnK at hq'
    split at hq'
    · rename_i id ver off len hget
      rw [hget] at hrep
      split at hq'
      · rename_i b hbx
        obtain ⟨hbv, hbr, hbs, hfit, hrng⟩ := hq'
        obtain ⟨l, hml, hlv, hls, hh⟩ := hrel.inv.box id b hbx
        generalize a'.tmps.getD t undef = v at hrep ⊢
        rw [rng_eq] at hrng
        have hlen : els.length = len := by rw [← hrng]; simp; omega
        have hget : ∀ i, i < len → els.getD i .junk = b.els.getD (off + i) .junk := by
          intro i hi
          rw [← hrng]
          simp [List.getD_eq_getElem?_getD, List.getElem?_take, hi, List.getElem?_drop]
        cases hrep with
        | slOld hm' hv' => rw [hml] at hm'; cases hm'; omega
        | slNil hm' hv' => exact .inl ⟨List.eq_nil_of_length_eq_zero hlen, _, rfl⟩
        | sl hm' hv' hbk hcap hfit2 hz =>
          rename_i cap loc g n
          rw [hml] at hm'; cases hm'
          unfold Holds at hh
          rw [hbk] at hh
          obtain ⟨hbig, hcell, _⟩ := hh
          obtain ⟨c, el, hw, hcs, hfit3, h1, hr⟩ := hcell (by rw [← hls]; exact hz)
          have hg : blks μ g := ⟨id, l, n, hml, hbk⟩
          have hge : w.heap.size ≤ g := by
            rcases hrel.mine g hg with ho | hge
            · exact ho.elim
            · exact hge
          refine .inr ⟨g, l.base + off * l.sz, cap, c, el, by rw [hlen], by rw [← hbs, ← hls]; exact hz, hge, hw, by omega, ?_, by omega, fun j hj => h1 j (by omega), fun i hi => ?_⟩
          · rw [hcs, ← hbs, ← hls]
            rw [Nat.add_mul] at hfit2
            omega
          · have hi' : i < len := by omega
            have hri := hr (off + i) (by omega)
            rw [hget i hi', ← hbs]
            refine ⟨hri.1, ?_⟩
            have h2 := hri.2
            rw [hbr] at h2
            simp only [Bool.false_eq_true, if_false] at h2
            rw [hls, Nat.add_assoc, ← Nat.add_mul]
            refine h2.mono (fun q hq _ => ⟨fun hy => hq ?_, rfl⟩) (Mu.later.refl _)
            rcases hy with hy | rfl
            · exact .inl hy
            · exact .inr hg
      · exact hq'.elim
    · rename_i sz' hget
      rw [hget] at hrep
      subst hq'
      refine .inl ⟨rfl, ?_⟩
      rcases hrep.seq_cells with ⟨_, p', e⟩ | ⟨b, off, cap', c, el, fr, e, hY, hb, hc, hff, _⟩
      · exact ⟨_, e⟩
      · have := hff rfl
        subst this
        exact ⟨_, e⟩
    · exact hq'.elim
  · exact hq'.elim


/-- What is asked at the end of a function to which a box is lent. -/
def LentK (m : List (Nat × Option Box)) (sz : Nat) (els' : List AV) : Prop := find m lid = some ⟨sz, els', 0, false⟩
def LRetK (T : TT) (s : St) (rs : List ResultVar) : LRet → Prop
  | .val a => resL T s rs ∧ resA (resV T s rs) = a ∧ flat a = true
  | .part len => match rs with
    | [.tmp t] => get s.env t = .sl lid 0 0 len
    | _ => False
def FinL (T : TT) (rs : List ResultVar) (sz : Nat) (r : LRet) (els' : List AV) : AExit → St → Prop
  | .exit _, _ => False
  | _, s => LentK s.mem sz els' ∧ LRetK T s rs r

include hT in
theorem callL_of_vc (hm : P.follows .mixedOrders = true) {f : FuncId} {fn : Func} {ac : ACode} {pre suf : List AV} {G : Nat → List Nat} {rs : List ResultVar} {N sz : Nat} {els els' : List AV} {r : LRet} (hf : P.funcs[f]? = some fn) (hname : (fn.name == "runtime.NumGoroutine") = false)
    (hr : fn.results.toList = rs) (hN : fn.ntmps = N) (hs : fn.body.bind (strip N G) = some ac) (hn : (pre ++ .sl lid 0 0 els.length :: suf).length ≤ N)
    (h : vc P T O ac (FinL T rs sz r els') ⟨envOf 0 (pre ++ .sl lid 0 0 els.length :: suf), [(lid, some ⟨sz, els, 0, false⟩)]⟩) : CallL P f pre sz els suf r els' := by
  cases hb : fn.body with
  | none => rw [hb] at hs; cases hs
  | some c =>
  rw [hb] at hs
  subst hN hr
  refine ⟨⟨fn, hf, (fun e => by rw [e] at hname; simp at hname), by rw [hb]; simp⟩, fun w X l vs hl0 hlsz hX hXl hh hlen hargs => ?_⟩
  have hfind : ∀ id b, find [(lid, some (⟨sz, els, 0, false⟩ : Box))] id = some b → id = lid ∧ b = ⟨sz, els, 0, false⟩ := by
    intro id b hfd
    simp only [find] at hfd
    split at hfd
    · rename_i e; cases hfd; exact ⟨e, rfl⟩
    · cases hfd
  have hmu : ∀ id l', mu1 l id = some l' → id = lid ∧ l' = l := by
    intro id l' hm'
    unfold mu1 at hm'
    split at hm'
    · rename_i e; cases hm'; exact ⟨e, rfl⟩
    · cases hm'
  have hrel : Rel ⟨w, X, blks (mu1 l), fn.ntmps, mu1 l, []⟩ w { tmps := vs ++ Array.replicate (fn.ntmps - vs.size) undef, defers := [] } ⟨envOf 0 (pre ++ .sl lid 0 0 els.length :: suf), [(lid, some ⟨sz, els, 0, false⟩)]⟩ := by
    refine ⟨mu1 l, rfl, by simp only [Array.size_append, Array.size_replicate]; omega, ⟨fun id hid => ?_, fun id b hfd => ?_, fun i i' l1 l2 g n n' h1 h2 h3 h4 => ?_, fun g hg => ?_⟩, fun t => ?_, Ext.refl _ _, fun g hg => .inl hg, fun b hb => ⟨hX b hb, fun hbl => ?_⟩, fun id l1 l2 h1 h2 => ?_⟩
    · simp only [find] at hid
      split at hid
      · cases hid
      · rename_i e; simp [mu1, e]
    · obtain ⟨rfl, rfl⟩ := hfind id b hfd
      exact ⟨l, by simp [mu1], hl0, hlsz, hh⟩
    · rw [(hmu _ _ h1).1, (hmu _ _ h2).1]
    · obtain ⟨n, hn⟩ := blks_mu1.1 hg
      exact hXl g n hn
    · rw [get_envOf, if_pos (Nat.zero_le _), Nat.sub_zero]
      by_cases ht : t < (pre ++ .sl lid 0 0 els.length :: suf).length
      · have := hargs t ht
        have e : (vs ++ Array.replicate (fn.ntmps - vs.size) undef).getD t undef = vs.getD t undef := by
          simp only [Array.getD_eq_getD_getElem?]
          rw [Array.getElem?_append_left (by omega)]
        rw [e]
        exact this
      · have : (pre ++ .sl lid 0 0 els.length :: suf).getD t .junk = .junk := by rw [List.getD_eq_getElem?_getD, List.getElem?_eq_none (Nat.le_of_not_lt ht)]; rfl
        rw [this]
        exact .junk
    · obtain ⟨n, hn⟩ := blks_mu1.1 hbl
      exact hXl b n hn hb
    · obtain ⟨rfl, rfl⟩ := hmu _ _ h1
      obtain ⟨_, rfl⟩ := hmu _ _ h2
      exact .inl rfl
  refine calls_of_vc hT hm hf hb hs (B := ⟨w, X, blks (mu1 l), fn.ntmps, mu1 l, []⟩) rfl rfl hrel h (fun id s' hq => hq) ?_
  intro a' w' s' hrel' hq
  have hq' : LentK s'.mem sz els' ∧ LRetK T s' fn.results.toList r := by rcases hq with hq | hq <;> exact hq
  obtain ⟨hlk, hq'⟩ := hq'
  obtain ⟨μ, hrel'⟩ := hrel'
  obtain ⟨l', hml, hlv, hls, hh'⟩ := hrel'.inv.box lid _ hlk
  have hll : l' = l := by
    rcases hrel'.kept lid l l' (by simp [mu1]) hml with e | e
    · exact e
    · simp only at hlv; omega
  subst hll
  have hsub : ∀ q, ¬ Yof X μ q → q < w'.heap.size → ¬ Yof X (mu1 l') q ∧ w'.heap[q]? = w'.heap[q]? := by
    intro q hq _
    refine ⟨fun hy => hq ?_, rfl⟩
    rcases hy with hy | hy
    · exact .inl hy
    · obtain ⟨n, hn⟩ := blks_mu1.1 hy
      exact .inr ⟨lid, l', n, hml, hn⟩
  have hholds : Holds w' (Yof X (mu1 l')) (mu1 l') l' ⟨sz, els', 0, false⟩ := by
    unfold Holds at hh' ⊢
    refine ⟨hh'.1, ?_⟩
    have h2 := hh'.2
    simp only [Bool.false_eq_true, if_false] at h2 ⊢
    cases hbk : l'.blk with
    | none => rw [hbk] at h2; exact h2
    | some gn =>
      obtain ⟨g', n'⟩ := gn
      rw [hbk] at h2
      refine ⟨fun hz => ?_, fun hz => ?_⟩
      · obtain ⟨c, el, hw, hcs, hfit, h1, hr⟩ := h2.1 hz
        exact ⟨c, el, hw, hcs, hfit, h1, fun i hi => ⟨(hr i hi).1, (hr i hi).2.mono hsub (Mu.later.refl _)⟩⟩
      · obtain ⟨hv0, es, clock, hw, hs, hr⟩ := h2.2 hz
        exact ⟨by first | rfl | trivial | exact hv0, es, clock, hw, hs, fun i hi => (hr i hi).mono hsub (Mu.later.refl _)⟩
  cases r with
  | val ra =>
    obtain ⟨hl, heq, hfl⟩ := hq'
    obtain ⟨vl, hrun, hvl, hrep⟩ := run_results hT hrel' fn.results.toList hl
    have hrun2 : (results fn a'.tmps).run P w' = .ok (if h : vl.length = 1 then vl[0]'(by omega) else .tuple vl.toArray) w' := by
      rw [results_eq, Sem.run_bind, Array.mapM_eq_mapM_toList, Sem.run_map, hrun]
      simp only [Result.andThen_ok, Sem.run_pure, List.size_toArray, List.getElem_toArray]
    refine ⟨_, hrun2, _, rfl, hrel'.ext, hholds, ?_⟩
    simp only [LRet.rep]
    rw [← heq]
    rw [← heq] at hfl
    refine Rep.flat (w := w') (Y := Yof X μ) (μ := μ) ?_ _ hfl
    have hlen2 : (resV T s' fn.results.toList).length = vl.length := by rw [resV_length, hvl]
    by_cases h1 : vl.length = 1
    · rw [dif_pos h1]
      cases hq : resV T s' fn.results.toList with
      | nil => rw [hq] at hlen2; simp at hlen2; omega
      | cons x l =>
        cases l with
        | nil =>
          have := hrep 0 (by omega)
          rw [hq] at this
          simp only [resA]
          simpa [List.getD_eq_getElem?_getD, h1] using this
        | cons y l => rw [hq] at hlen2; simp at hlen2; omega
    · rw [dif_neg h1]
      have hra : resA (resV T s' fn.results.toList) = .tup (resV T s' fn.results.toList) := by
        cases hq : resV T s' fn.results.toList with
        | nil => rfl
        | cons x l =>
          cases l with
          | nil => rw [hq] at hlen2; simp at hlen2; omega
          | cons y l => rfl
      rw [hra]
      refine .tup (by simp [hlen2]) fun i hi => ?_
      have := hrep i (by rw [resV_length] at hi; exact hi)
      simpa [Array.getD_eq_getD_getElem?, List.getD_eq_getElem?_getD] using this
  | part len =>
    simp only [LRetK] at hq'
    split at hq'
    · rename_i t hres
      refine ⟨_, results_one hres a'.tmps w', _, rfl, hrel'.ext, hholds, ?_⟩
      have hrep := hrel'.env t
      rw [hq'] at hrep
      simp only [LRet.rep]
      generalize a'.tmps.getD t undef = v at hrep ⊢
      cases hrep with
      | slNil hm' hv' => exact .slNil (loc := l') (by simp [mu1]) hl0
      | sl hm' hv' hbk hcap hfit hz =>
        rw [hml] at hm'; cases hm'
        exact .sl (loc := l') (by simp [mu1]) hl0 hbk hcap hfit hz
      | slOld hm' hv' =>
        rw [hml] at hm'; cases hm'
        omega
    · exact hq'.elim


omit hT in
/-- An owned result may be read as an immutable one. -/
theorem CallO.toP {f : FuncId} {args : List AV} {sz : Nat} {els : List AV} (h : CallO P f args sz els) : CallP P f args (.seq sz els false) := by
  refine ⟨h.1, fun w X vs hX hlen hargs => Calls.mono (h.2 w X vs hX hlen hargs) ?_⟩
  rintro e w' ⟨v, rfl, hg, ho⟩
  refine ⟨v, rfl, hg, ?_⟩
  rcases ho with ⟨rfl, p, rfl⟩ | ⟨g, base, cap, c, el, rfl, _, hge, hw, hcap, hfit, hbig, h1, hr⟩
  · exact .nil
  · have hx : ¬ X g := fun hx => by have := hX g hx; omega
    have hm : els.length * sz ≤ cap * sz := Nat.mul_le_mul_right _ hcap
    refine .seq hx hw hcap (fun h => by cases h) hbig (by omega) (fun i hi => (hr i hi).1) (fun j _ hj => h1 j (by omega)) fun i hi => ?_
    exact (hr i hi).2.mono (fun q hq _ => ⟨fun hy => hq (.inl hy), rfl⟩) (Mu.later.refl _)

end
end Go.Abs
end

section
/- The value layer, part 33 (behind 27): the contracts of functions to which boxes are lent. -/
namespace Go.Abs

def LentB (m : List (Nat × Option Box)) : List (Nat × Option Box) → Prop
  | [] => True
  | (id, some b) :: l => find m id = some b ∧ b.ver = 0 ∧ LentB m l
  | (_, none) :: _ => False
/-- The values name only such boxes. -/
def inKeys (ks ids : List Nat) : Bool := ids.all fun id => ks.contains id
def inKeysM (ks : List Nat) : List (Nat × Option Box) → Bool
  | [] => true
  | (_, some b) :: l => (!b.var || inKeys ks (AV.refsL b.els)) && inKeysM ks l
  | (_, none) :: l => inKeysM ks l
def FinB (T : TT) (rs : List ResultVar) (m : List (Nat × Option Box)) (r : AV) (m' : List (Nat × Option Box)) : AExit → St → Prop
  | .exit _, _ => False
  | _, s => LentB s.mem m' ∧ (m.map (·.1) = m'.map (·.1) ∧ inKeysM (m.map (·.1)) m' = true ∧ inKeys (m.map (·.1)) r.refs = true) ∧ resL T s rs ∧ resA (resV T s rs) = r

theorem lentB_mem {m : List (Nat × Option Box)} : ∀ {m' : List (Nat × Option Box)}, LentB m m' → ∀ id ∈ m'.map (·.1), ∃ b, find m' id = some b ∧ find m id = some b ∧ b.ver = 0
  | (k, some b) :: l, h, id, hid => by
    obtain ⟨h1, h2, h3⟩ := h
    simp only [find]
    by_cases e : id = k
    · subst e
      exact ⟨b, by simp, h1, h2⟩
    · rw [if_neg e]
      refine lentB_mem h3 id ?_
      simp only [List.map_cons, List.mem_cons] at hid
      rcases hid with hid | hid
      · exact absurd hid e
      · exact hid
  | (k, none) :: l, h, id, hid => h.elim
theorem find_keys : ∀ {m : List (Nat × Option Box)} {id : Nat} {b : Box}, find m id = some b → id ∈ m.map (·.1)
  | (k, ob) :: l, id, b, h => by
    simp only [find] at h
    split at h
    · rename_i e; simp [e]
    · simp [find_keys h]
theorem keys_find : ∀ {m : List (Nat × Option Box)}, (m.all fun p => p.2.isSome) = true → ∀ {id : Nat}, id ∈ m.map (·.1) → ∃ b, find m id = some b
  | (k, ob) :: l, h, id, hid => by
    simp only [List.all_cons, Bool.and_eq_true] at h
    simp only [find]
    by_cases e : id = k
    · rw [if_pos e]
      cases ob with
      | none => simp at h
      | some b => exact ⟨b, rfl⟩
    · rw [if_neg e]
      simp only [List.map_cons, List.mem_cons] at hid
      rcases hid with hid | hid
      · exact absurd hid e
      · exact keys_find h.2 hid
theorem inKeysM_find {ks : List Nat} : ∀ {m : List (Nat × Option Box)}, inKeysM ks m = true → ∀ {id : Nat} {b : Box}, find m id = some b → b.var = true → inKeys ks (AV.refsL b.els) = true
  | (k, some b') :: l, h, id, b, hf, hv => by
    simp only [inKeysM, Bool.and_eq_true] at h
    simp only [find] at hf
    split at hf
    · cases hf
      have := h.1
      rw [hv] at this
      simpa using this
    · exact inKeysM_find h.2 hf hv
  | (k, none) :: l, h, id, b, hf, hv => by
    simp only [find] at hf
    split at hf
    · cases hf
    · exact inKeysM_find (by simpa [inKeysM] using h) hf hv
theorem inKeys_mem {ks ids : List Nat} (h : inKeys ks ids = true) : ∀ id ∈ ids, id ∈ ks := fun id hid => by
  have := List.all_eq_true.1 h id hid
  simpa using this

section
variable {P : Program} {T : TT} (hT : TOK P T) {O : List Nat}

include hT in
theorem callB_of_vc (hm : P.follows .mixedOrders = true) {f : FuncId} {fn : Func} {ac : ACode} {as : List AV} {G : Nat → List Nat} {rs : List ResultVar} {N : Nat} {m m' : List (Nat × Option Box)} {r : AV} (hf : P.funcs[f]? = some fn) (hname : (fn.name == "runtime.NumGoroutine") = false)
    (hr : fn.results.toList = rs) (hN : fn.ntmps = N) (hs : fn.body.bind (strip N G) = some ac) (hn : as.length ≤ N) (hsome : (m.all fun p => p.2.isSome) = true)
    (h : vc P T O ac (FinB T rs m r m') ⟨envOf 0 as, m⟩) : CallB P f as m r m' := by
  cases hb : fn.body with
  | none => rw [hb] at hs; cases hs
  | some c =>
  rw [hb] at hs
  subst hN hr
  refine ⟨⟨fn, hf, (fun e => by rw [e] at hname; simp at hname), by rw [hb]; simp⟩, fun w X μ vs hX hinv hver hlen hargs => ?_⟩
  have hrel : Rel ⟨w, X, blks μ, fn.ntmps, μ, []⟩ w { tmps := vs ++ Array.replicate (fn.ntmps - vs.size) undef, defers := [] } ⟨envOf 0 as, m⟩ := by
    refine ⟨μ, rfl, by simp only [Array.size_append, Array.size_replicate]; omega, hinv, fun t => ?_, Ext.refl _ _, fun g hg => .inl hg, fun b hb => ⟨hX b hb, fun hbl => hinv.out b hbl hb⟩, fun id l1 l2 h1 h2 => ?_⟩
    · rw [get_envOf, if_pos (Nat.zero_le _), Nat.sub_zero]
      by_cases ht : t < as.length
      · have := hargs t ht
        have e : (vs ++ Array.replicate (fn.ntmps - vs.size) undef).getD t undef = vs.getD t undef := by
          simp only [Array.getD_eq_getD_getElem?]
          rw [Array.getElem?_append_left (by omega)]
        rw [e]
        exact this
      · have : as.getD t .junk = .junk := by rw [List.getD_eq_getElem?_getD, List.getElem?_eq_none (Nat.le_of_not_lt ht)]; rfl
        rw [this]
        exact .junk
    · have h3 : μ id = some l1 := h1
      rw [h3] at h2
      cases h2
      exact .inl rfl
  refine calls_of_vc hT hm hf hb hs (B := ⟨w, X, blks μ, fn.ntmps, μ, []⟩) rfl rfl hrel h (fun id s' hq => hq) ?_
  intro a' w' s' hrel' hq
  have hq' : LentB s'.mem m' ∧ (m.map (·.1) = m'.map (·.1) ∧ inKeysM (m.map (·.1)) m' = true ∧ inKeys (m.map (·.1)) r.refs = true) ∧ resL T s' fn.results.toList ∧ resA (resV T s' fn.results.toList) = r := by rcases hq with hq | hq <;> exact hq
  obtain ⟨hlk, ⟨hkeys, hwm, hwr⟩, hl, heq⟩ := hq'
  obtain ⟨μf, hrel'⟩ := hrel'
  have hsame : ∀ id ∈ m.map (·.1), ∃ l, μf id = some l ∧ μ id = some l := by
    intro id hid
    obtain ⟨b0, hb0⟩ := keys_find hsome hid
    obtain ⟨l0, h0, hv0, _⟩ := hinv.box id b0 hb0
    rw [hkeys] at hid
    obtain ⟨b, _, h2, h3⟩ := lentB_mem hlk id hid
    obtain ⟨l, h4, h5, _⟩ := hrel'.inv.box id b h2
    refine ⟨l, h4, ?_⟩
    rcases hrel'.kept id l0 l h0 h4 with e | e
    · rw [e]; exact h0
    · omega
  have hsub : ∀ q, ¬ Yof X μf q → q < w'.heap.size → ¬ Yof X μ q ∧ w'.heap[q]? = w'.heap[q]? := by
    intro q hq _
    refine ⟨fun hy => hq ?_, rfl⟩
    rcases hy with hy | ⟨i, l, n, h1, h2⟩
    · exact .inl hy
    · have hi : i ∈ m.map (·.1) := by
        cases hfi : find m i with
        | none => rw [hinv.no i hfi] at h1; cases h1
        | some b => exact find_keys hfi
      obtain ⟨l', h3, h4⟩ := hsame i hi
      rw [h1] at h4
      cases h4
      exact .inr ⟨i, l, n, h3, h2⟩
  have hon : ∀ {x : AV} {v : Value}, inKeys (m.map (·.1)) x.refs = true → Rep w' (Yof X μf) μf x v → Rep w' (Yof X μ) μ x v := by
    intro x v hx hrp
    refine (hrp.on (μ' := μ) fun id hid => ?_).mono hsub (Mu.later.refl _)
    obtain ⟨l, h1, h2⟩ := hsame id (inKeys_mem hx id hid)
    rw [h1, h2]
  have hinv' : Inv w' X μ m' := by
    refine ⟨fun id hid => ?_, fun id b hid => ?_, hinv.apart, hinv.out⟩
    · cases hfi : find m id with
      | none => exact hinv.no id hfi
      | some b =>
        have := find_keys hfi
        rw [hkeys] at this
        obtain ⟨b', h1, _⟩ := lentB_mem hlk id this
        rw [hid] at h1; cases h1
    · have hk := find_keys hid
      obtain ⟨b', h1, h2, h3⟩ := lentB_mem hlk id hk
      rw [hid] at h1
      cases h1
      rw [← hkeys] at hk
      obtain ⟨l, h4, h5⟩ := hsame id hk
      obtain ⟨l', h6, h7, h8, hh⟩ := hrel'.inv.box id b h2
      rw [h4] at h6
      cases h6
      refine ⟨l, h5, h7, h8, ?_⟩
      unfold Holds at hh ⊢
      refine ⟨hh.1, ?_⟩
      have h2 := hh.2
      cases hbk : l.blk with
      | none => rw [hbk] at h2; exact h2
      | some gn =>
        obtain ⟨g', n'⟩ := gn
        rw [hbk] at h2
        refine ⟨fun hz => ?_, fun hz => ?_⟩
        · obtain ⟨c, el, hw, hcs, hfit, h1, hr⟩ := h2.1 hz
          refine ⟨c, el, hw, hcs, hfit, h1, fun i hi => ⟨(hr i hi).1, ?_⟩⟩
          have h9 := (hr i hi).2
          cases hv : b.var with
          | true =>
            rw [hv] at h9
            have hal := inKeysM_find hwm hid hv
            refine hon ?_ h9
            unfold inKeys
            rw [List.all_eq_true]
            intro id' hid'
            have := inKeys_mem hal id' (AV.mem_refsL hi hid')
            simpa using this
          | false => rw [hv] at h9; exact h9.mono hsub (Mu.later.refl _)
        · obtain ⟨hv0, es, clock, hw, hs, hr⟩ := h2.2 hz
          exact ⟨hv0, es, clock, hw, hs, fun i hi => (hr i hi).mono hsub (Mu.later.refl _)⟩
  obtain ⟨vl, hrun, hvl, hrep⟩ := run_results hT hrel' fn.results.toList hl
  have hrun2 : (results fn a'.tmps).run P w' = .ok (if h : vl.length = 1 then vl[0]'(by omega) else .tuple vl.toArray) w' := by
    rw [results_eq, Sem.run_bind, Array.mapM_eq_mapM_toList, Sem.run_map, hrun]
    simp only [Result.andThen_ok, Sem.run_pure, List.size_toArray, List.getElem_toArray]
  refine ⟨_, hrun2, _, rfl, hrel'.ext, hinv', hon hwr ?_⟩
  rw [← heq]
  have hlen2 : (resV T s' fn.results.toList).length = vl.length := by rw [resV_length, hvl]
  by_cases h1 : vl.length = 1
  · rw [dif_pos h1]
    cases hq : resV T s' fn.results.toList with
    | nil => rw [hq] at hlen2; simp at hlen2; omega
    | cons x l =>
      cases l with
      | nil =>
        have := hrep 0 (by omega)
        rw [hq] at this
        simp only [resA]
        simpa [List.getD_eq_getElem?_getD, h1] using this
      | cons y l => rw [hq] at hlen2; simp at hlen2; omega
  · rw [dif_neg h1]
    have hra : resA (resV T s' fn.results.toList) = .tup (resV T s' fn.results.toList) := by
      cases hq : resV T s' fn.results.toList with
      | nil => rfl
      | cons x l =>
        cases l with
        | nil => rw [hq] at hlen2; simp at hlen2; omega
        | cons y l => rfl
    rw [hra]
    refine .tup (by simp [hlen2]) fun i hi => ?_
    have := hrep i (by rw [resV_length] at hi; exact hi)
    simpa [Array.getD_eq_getD_getElem?, List.getD_eq_getElem?_getD] using this
end
end Go.Abs
end

section
/- The value layer, part 24: a table of types that is right; the contract of a given function. -/
namespace Go.Abs

/-! ### zero values -/
def zOK1 : AV → Value → Bool
  | .raw (.int k a), .int k' b => decide (k = k') && decide (a = b)
  | .raw (.bool a), .bool b => a == b
  | .raw (.pointer none), .pointer none => true
  | .seq _ [] _, .slice none 0 0 => true
  | .raw (.slice none 0 0), .slice none 0 0 => true
  | .raw (.map none), .map none => true
  | .raw (.string a), .string b => decide (a = b)
  | .raw .nilFunc, .nilFunc => true
  | .junk, _ => true
  | _, _ => false
def zOKL : List AV → List Value → Bool
  | [], [] => true
  | a :: l, v :: vs => v.oneCell' && zOK1 a v && zOKL l vs
  | _, _ => false
def zOK : AV → Value → Bool
  | .agg l, .agg cs => zOKL l cs.toList
  | .agg _, _ => false
  | z, v => v.oneCell' && zOK1 z v

theorem zOK1_rep {w : World} {Y : Nat → Prop} {μ : Mu} {z : AV} {v : Value} (h : zOK1 z v = true) : Rep w Y μ z v := by
  unfold zOK1 at h
  split at h
  · simp only [Bool.and_eq_true, decide_eq_true_eq] at h
    obtain ⟨rfl, rfl⟩ := h; exact .raw rfl
  · simp only [beq_iff_eq] at h; subst h; exact .raw rfl
  · exact .raw rfl
  · exact .nil
  · exact .raw rfl
  · exact .raw rfl
  · simp only [decide_eq_true_eq] at h; subst h; exact .raw rfl
  · exact .raw rfl
  · exact .junk
  · cases h

theorem zOKL_spec : ∀ {l : List AV} {vs : List Value}, zOKL l vs = true → vs.length = l.length ∧ ∀ i, i < l.length → (vs.getD i undef).oneCell' = true ∧ zOK1 (l.getD i .junk) (vs.getD i undef) = true
  | [], [], _ => ⟨rfl, fun i hi => by simp at hi⟩
  | a :: l, v :: vs, h => by
    simp only [zOKL, Bool.and_eq_true] at h
    obtain ⟨h1, h2⟩ := zOKL_spec h.2
    refine ⟨by simp [h1], fun i hi => ?_⟩
    cases i with
    | zero => simpa using h.1
    | succ i => simpa using h2 i (by simpa using hi)
  | [], _ :: _, h => by simp [zOKL] at h
  | _ :: _, [], h => by simp [zOKL] at h

theorem toArr_getD (cs : Array Value) (i : Nat) : cs.toList.getD i undef = cs.getD i undef := by
  simp [Array.getD_eq_getD_getElem?, List.getD_eq_getElem?_getD]

theorem zOK_spec {z : AV} {v : Value} {n : Nat} (h : zOK z v = true) (hn : v.cells.size = n) : (∀ j, j < n → (v.cells.getD j undef).oneCell' = true) ∧ (∀ w Y μ, Rep w Y μ z v) ∧
    ∀ w Y μ j, j < n → Rep w Y μ ((cellsOf z).getD j .junk) (v.cells.getD j undef) := by
  unfold zOK at h
  split at h
  · rename_i l cs
    obtain ⟨h1, h2⟩ := zOKL_spec h
    simp only [Value.cells] at hn ⊢
    have hl : l.length = n := by rw [← hn, ← h1]; simp
    have h3 : ∀ i, i < l.length → (cs.getD i undef).oneCell' = true ∧ zOK1 (l.getD i .junk) (cs.getD i undef) = true := fun i hi => by
      have := h2 i hi
      rwa [toArr_getD] at this
    exact ⟨fun j hj => (h3 j (by omega)).1, fun w Y μ => .agg (by omega) (fun i hi => (h3 i hi).1) (fun i hi => zOK1_rep (h3 i hi).2), fun w Y μ j hj => zOK1_rep (h3 j (by omega)).2⟩
  · cases h
  · rename_i hna1 hna2
    simp only [Bool.and_eq_true] at h
    obtain ⟨h1, h2⟩ := h
    have hc : v.cells = #[v] := by cases v <;> first | rfl | (simp [Value.oneCell'] at h1)
    have hz : cellsOf z = [z] := by cases z <;> first | rfl | (exfalso; simp_all; done)
    rw [hc] at hn ⊢
    rw [hz]
    simp only [List.size_toArray, List.length_cons, List.length_nil, Nat.zero_add] at hn
    subst hn
    refine ⟨fun j hj => ?_, fun w Y μ => zOK1_rep h2, fun w Y μ j hj => ?_⟩
    · have : j = 0 := by omega
      subst this; simpa using h1
    · have : j = 0 := by omega
      subst this; simpa using zOK1_rep h2

def descOK (P : Program) : TK → TypeDesc → Bool
  | .slice e, .slice e' => e == e'
  | .struct fs, .struct fields => match fields.toList.mapM (fun f => (P.info? f.type).map fun i => (f.offset, i.size, f.type)) with
    | some l => decide (l = fs)
    | none => false
  | .array n e, .array n' e' => n == n' && e == e'
  | .int k, .int k' => decide (k = k')
  | .bool, .bool => true
  | .map k e .str, .map k' e' => k == k' && e == e' && (match P.underlying k with | some .string => true | _ => false)
  | .map k e .two, .map k' e' => k == k' && e == e' && (match P.underlying k with | some (.array 2 x) => (match P.underlying x with | some (.int .i64) => true | _ => false) && P.plainKey x && decide (P.cellsOf x = 1) && decide (P.cellsOf k = 2) && decide (0 < P.types.size) | _ => false)
  | .str, .string => true
  | .flat, .struct _ => false
  | .flat, .array _ _ => false
  | .flat, .slice _ => false
  | .flat, _ => true
  | _, _ => false

theorem descOK_spec {P : Program} {k : TK} {d : TypeDesc} (h : descOK P k d = true) : k.desc P d := by
  unfold descOK at h
  split at h
  · simp only [beq_iff_eq] at h; subst h; rfl
  · split at h
    · rename_i hl
      simp only [decide_eq_true_eq] at h; subst h
      exact ⟨_, rfl, hl⟩
    · cases h
  · simp only [Bool.and_eq_true, beq_iff_eq] at h
    obtain ⟨rfl, rfl⟩ := h; rfl
  · simp only [decide_eq_true_eq] at h; subst h; rfl
  · rfl
  · simp only [Bool.and_eq_true, beq_iff_eq] at h
    obtain ⟨⟨rfl, rfl⟩, h3⟩ := h
    refine ⟨rfl, keyR_str ?_⟩
    split at h3
    · rename_i hu; exact hu
    · cases h3
  · simp only [Bool.and_eq_true, beq_iff_eq] at h
    obtain ⟨⟨rfl, rfl⟩, h3⟩ := h
    refine ⟨rfl, ?_⟩
    split at h3
    · rename_i x hu
      simp only [Bool.and_eq_true, decide_eq_true_eq] at h3
      obtain ⟨⟨⟨⟨h4, h5⟩, h6⟩, h7⟩, h8⟩ := h3
      split at h4
      · rename_i hx
        exact keyR_two ⟨hu, h5, h6, h7⟩ hx ⟨_, (Nat.succ_pred_eq_of_pos h8).symm⟩
      · cases h4
    · cases h3
  · rfl
  · cases h
  · cases h
  · cases h
  · rename_i h1 h2 h3
    exact ⟨fun fs e => h1 fs e, fun n e e' => h2 n e e', fun e e' => h3 e e'⟩
  · cases h

def rowOK (P : Program) (t : Nat) (ti : TI) : Bool :=
  match P.info? t with
  | some i => match i.zero with
    | some z => i.size == ti.size && i.bytes == ti.bytes && z.cells.size == ti.size && zOK ti.zero z && ti.zero.width == ti.size && decide (0 < ti.size) && decide (ti.bytes ≤ 4096) &&
      match P.underlying t with
      | some d => descOK P ti.kind d
      | none => false
    | none => false
  | none => false

theorem rowOK_spec {P : Program} {t : Nat} {ti : TI} (h : rowOK P t ti = true)
    (he : ti.eq = true → ∀ (xs ys : Array Value) (b : Bool) (x y : Operand) (w : World), xs.toList.map vkind = (cellsOf ti.zero).map akind → vsEq xs.toList ys.toList = some b →
      (do eqGuard .eql t x y (.agg xs) (.agg ys); binOp .eql t (.agg xs) (.agg ys) : Sem Value).run P w = .ok (.bool b) w ∧
      (do eqGuard .neq t x y (.agg xs) (.agg ys); binOp .neq t (.agg xs) (.agg ys) : Sem Value).run P w = .ok (.bool (!b)) w) : TOK1 P t ti := by
  unfold rowOK at h
  split at h
  · rename_i i hi
    split at h
    · rename_i z hz
      simp only [Bool.and_eq_true, beq_iff_eq, decide_eq_true_eq] at h
      obtain ⟨⟨⟨⟨⟨⟨⟨h1, h2⟩, h3⟩, h4⟩, h5⟩, h6⟩, h7⟩, h8⟩ := h
      obtain ⟨k1, k2, k3⟩ := zOK_spec h4 h3
      split at h8
      · rename_i d hd
        exact ⟨⟨i, z, hi, h1, h2, hz, h3, k1, k2, k3⟩, h5, ⟨d, hd, descOK_spec h8⟩, h6, h7, he⟩
      · cases h8
    · cases h
  · cases h

def findT : List (Nat × TI) → Nat → Option TI
  | [], _ => none
  | r :: l, t => if t = r.1 then some r.2 else findT l t

theorem findT_mem {t : Nat} {ti : TI} : ∀ {l : List (Nat × TI)}, findT l t = some ti → (t, ti) ∈ l
  | [], h => by simp [findT] at h
  | r :: l, h => by
    simp only [findT] at h
    split at h
    · rename_i e; cases h; subst e; simp
    · exact List.mem_cons_of_mem _ (findT_mem h)

def EqR (P : Program) (t : Nat) (z : AV) : Prop := ∀ (xs ys : Array Value) (b : Bool) (x y : Operand) (w : World), xs.toList.map vkind = (cellsOf z).map akind → vsEq xs.toList ys.toList = some b →
      (do eqGuard .eql t x y (.agg xs) (.agg ys); binOp .eql t (.agg xs) (.agg ys) : Sem Value).run P w = .ok (.bool b) w ∧
      (do eqGuard .neq t x y (.agg xs) (.agg ys); binOp .neq t (.agg xs) (.agg ys) : Sem Value).run P w = .ok (.bool (!b)) w

theorem tok_of {P : Program} (l : List (Nat × TI)) (h : (l.all fun r => rowOK P r.1 r.2) = true) (he : ∀ r ∈ l, r.2.eq = true → EqR P r.1 r.2.zero) : TOK P (findT l) := by
  intro t ti ht
  have hm := findT_mem ht
  exact rowOK_spec (List.all_eq_true.1 h _ hm) fun e => he _ hm e

/-! ### equality of plain structs and arrays -/
def kindT (P : Program) (t : Nat) : Option (Option IntKind) := match P.underlying t with | some (.int k) => some (some k) | some .bool => some none | _ => none
def plainF (P : Program) : Nat → List Field → List (Option (Option IntKind)) → Bool
  | _, [], [] => true
  | k, f :: fs, e :: es => decide (f.name ≠ "_") && f.offset == k && (kindT P f.type).isSome && decide (kindT P f.type = e) && plainF P (k + 1) fs es
  | _, _, _ => false

theorem eqIn_plain {P : Program} {d t : Nat} {x y : Value} {b : Bool} {w : World} (hs : (kindT P t).isSome = true) (hx : vkind x = kindT P t) (h : vEq x y = some b) :
    (Op.equalIn (d + 1) t x y).run P w = .ok b w := by
  unfold kindT at hs hx
  split at hs
  · rename_i k hk
    unfold vEq at h
    split at h
    · split at h
      · rename_i k1 a k2 c e
        subst e; cases h
        rw [run_equalIn_int _ _ _ _ _ _ _ hk]
        congr 1
      · cases h
    · rw [hk] at hx; simp [vkind] at hx
    · cases h
  · rename_i hk
    unfold vEq at h
    split at h
    · rw [hk] at hx; simp [vkind] at hx
    · cases h
      exact run_equalIn_bool' _ _ _ _ _ hk
    · cases h
  · cases hs

theorem run_part_plain {P : Program} {t : Nat} {cs : Array Value} {o : Nat} {w : World} (hs : (kindT P t).isSome = true) {v : Value} (hv : cs[o]? = some v) :
    (part t cs o).run P w = .ok v w := by
  unfold kindT at hs
  split at hs
  · rename_i k hk
    simp [part, isAgg, run_underlying hk, hv]
  · rename_i hk
    simp [part, isAgg, run_underlying hk, hv]
  · cases hs

theorem eqFields_plain {P : Program} {d : Nat} {w : World} {xs ys : Array Value} : ∀ {fs : List Field} {es : List (Option (Option IntKind))} {k : Nat} {l m : List Value} {b : Bool},
    plainF P k fs es = true → l = xs.toList.drop k → m = ys.toList.drop k → l.map vkind = es → vsEq l m = some b → (Op.eqFields (d + 1) xs ys fs).run P w = .ok b w
  | [], es, k, l, m, b, hp, hl, hm, hk, h => by
    cases es with
    | nil =>
      have : l = [] := by simpa using hk
      rw [this] at h
      cases m with
      | nil => simp only [vsEq] at h; cases h; rfl
      | cons y ys => simp [vsEq] at h
    | cons e es => simp [plainF] at hp
  | f :: fs, [], k, l, m, b, hp, hl, hm, hk, h => by simp [plainF] at hp
  | f :: fs, e :: es, k, l, m, b, hp, hl, hm, hk, h => by
    simp only [plainF, Bool.and_eq_true, decide_eq_true_eq, beq_iff_eq] at hp
    obtain ⟨⟨⟨⟨h1, h2⟩, h3⟩, h4⟩, h5⟩ := hp
    cases l with
    | nil => simp at hk
    | cons x l =>
      cases m with
      | nil => simp [vsEq] at h
      | cons y m =>
        simp only [List.map_cons, List.cons.injEq] at hk
        obtain ⟨hk1, hk2⟩ := hk
        have hx : xs[k]? = some x := by
          have : (xs.toList.drop k)[0]? = some x := by rw [← hl]; rfl
          simpa using this
        have hy : ys[k]? = some y := by
          have : (ys.toList.drop k)[0]? = some y := by rw [← hm]; rfl
          simpa using this
        have hl' : l = xs.toList.drop (k + 1) := by rw [← List.drop_drop, ← hl]; rfl
        have hm' : m = ys.toList.drop (k + 1) := by rw [← List.drop_drop, ← hm]; rfl
        simp only [vsEq] at h
        split at h
        · rename_i a c ha hc
          cases h
          have ih := eqFields_plain (P := P) (d := d) (w := w) (xs := xs) (ys := ys) h5 hl' hm' hk2 hc
          simp only [Op.eqFields]
          rw [if_pos h1, h2]
          simp only [Sem.run_bind, run_part_plain h3 hx, run_part_plain h3 hy, Result.andThen_ok, eqIn_plain (d := d) (w := w) h3 (hk1.trans h4.symm) ha]
          cases a
          · simp
          · simpa using ih
        · cases h

theorem eqR_struct {P : Program} {t : Nat} {z : AV} (hu : P.underlying t = some (.struct (P.fieldsOf t))) (hst : P.stoodInHeld t = false) (hg : P.eqGuardType P.depth t = false)
    (hp : plainF P 0 (P.fieldsOf t).toList ((cellsOf z).map akind) = true) : EqR P t z := by
  intro xs ys b x y w hk hv
  have he : ∀ w, (Op.equalIn 10000 t (.agg xs) (.agg ys)).run P w = .ok b w := fun w => by
    rw [run_equalIn_struct w 9999 t xs ys hu hst]
    exact eqFields_plain (d := 9998) hp (by simp) (by simp) hk hv
  constructor
  · rw [Sem.run_bind, run_eqGuard_agg w .eql t x y xs ys hg, Result.andThen_ok, run_eql_struct, he]; rfl
  · rw [Sem.run_bind, run_eqGuard_agg w .neq t x y xs ys hg, Result.andThen_ok, run_neq_struct, he]; rfl

theorem vsEq_len : ∀ {l m : List Value} {b : Bool}, vsEq l m = some b → l.length = m.length
  | [], [], _, _ => rfl
  | x :: xs, y :: ys, b, h => by
    simp only [vsEq] at h
    split at h
    · rename_i h2
      simp [vsEq_len h2]
    · cases h
  | [], _ :: _, _, h => by simp [vsEq] at h
  | _ :: _, [], _, h => by simp [vsEq] at h
theorem bool_of_kind {v : Value} (h : vkind v = some none) : ∃ b, v = .bool b := by
  cases v <;> simp [vkind] at h
  exact ⟨_, rfl⟩
theorem run_part_bool {P : Program} {e : Nat} {w : World} (he : P.underlying e = some .bool) {cs : Array Value} {o : Nat} {v : Value} (hv : cs[o]? = some v) : (part e cs o).run P w = .ok v w :=
  run_part_plain (by simp [kindT, he]) hv
theorem eqArr7 {P : Program} {t e : Nat} {w : World} {d : Nat} {a0 a1 a2 a3 a4 a5 a6 b0 b1 b2 b3 b4 b5 b6 : Bool} (hu : P.underlying t = some (.array 7 e)) (he : P.underlying e = some .bool) (hst : (sizeOf e).run P w = .ok 1 w) :
    (Op.equalIn (d + 2) t (.agg #[.bool a0, .bool a1, .bool a2, .bool a3, .bool a4, .bool a5, .bool a6]) (.agg #[.bool b0, .bool b1, .bool b2, .bool b3, .bool b4, .bool b5, .bool b6])).run P w =
      .ok (a0 == b0 && (a1 == b1 && (a2 == b2 && (a3 == b3 && (a4 == b4 && (a5 == b5 && a6 == b6)))))) w := by
  have hp : ∀ (cs : Array Value) (o : Nat) (v : Value), cs[o]? = some v → (part e cs o).run P w = .ok v w := fun cs o v hv => run_part_bool he hv
  have hq : ∀ a b, (Op.equalIn (d + 1) e (.bool a) (.bool b)).run P w = .ok (a == b) w := fun a b => run_equalIn_bool' w d e a b he
  rw [show d + 2 = (d + 1) + 1 from rfl]
  generalize d + 1 = D at hq ⊢
  simp only [Op.equalIn, Sem.run_bind, run_underlying hu, Result.andThen_ok, hst]
  rw [Std.Legacy.Range.forIn_eq_forIn_range']
  simp only [Std.Legacy.Range.size, Nat.sub_zero, Nat.add_sub_cancel, Nat.div_one, List.range'_succ, List.range'_zero, List.forIn_cons, List.forIn_nil, Sem.run_bind, Nat.reduceAdd, Nat.mul_one, Nat.reduceDiv]
  have h2 : ∀ (c0 c1 c2 c3 c4 c5 c6 : Bool), (part e #[.bool c0, .bool c1, .bool c2, .bool c3, .bool c4, .bool c5, .bool c6] 0).run P w = .ok (.bool c0) w ∧
      (part e #[.bool c0, .bool c1, .bool c2, .bool c3, .bool c4, .bool c5, .bool c6] 1).run P w = .ok (.bool c1) w ∧ (part e #[.bool c0, .bool c1, .bool c2, .bool c3, .bool c4, .bool c5, .bool c6] 2).run P w = .ok (.bool c2) w ∧
      (part e #[.bool c0, .bool c1, .bool c2, .bool c3, .bool c4, .bool c5, .bool c6] 3).run P w = .ok (.bool c3) w ∧ (part e #[.bool c0, .bool c1, .bool c2, .bool c3, .bool c4, .bool c5, .bool c6] 4).run P w = .ok (.bool c4) w ∧
      (part e #[.bool c0, .bool c1, .bool c2, .bool c3, .bool c4, .bool c5, .bool c6] 5).run P w = .ok (.bool c5) w ∧ (part e #[.bool c0, .bool c1, .bool c2, .bool c3, .bool c4, .bool c5, .bool c6] 6).run P w = .ok (.bool c6) w :=
    fun c0 c1 c2 c3 c4 c5 c6 => ⟨hp _ _ _ rfl, hp _ _ _ rfl, hp _ _ _ rfl, hp _ _ _ rfl, hp _ _ _ rfl, hp _ _ _ rfl, hp _ _ _ rfl⟩
  obtain ⟨x0, x1, x2, x3, x4, x5, x6⟩ := h2 a0 a1 a2 a3 a4 a5 a6
  obtain ⟨y0, y1, y2, y3, y4, y5, y6⟩ := h2 b0 b1 b2 b3 b4 b5 b6
  simp only [x0, y0, Result.andThen_ok, hq]
  cases (a0 == b0) <;> simp only [Bool.not_false, Bool.not_true, if_true, Bool.false_eq_true, if_false, Sem.run_pure, Sem.run_bind, Result.andThen_ok, x1, y1, hq, Bool.false_and, Bool.true_and]
  cases (a1 == b1) <;> simp only [Bool.not_false, Bool.not_true, if_true, Bool.false_eq_true, if_false, Sem.run_pure, Sem.run_bind, Result.andThen_ok, x2, y2, hq, Bool.false_and, Bool.true_and]
  cases (a2 == b2) <;> simp only [Bool.not_false, Bool.not_true, if_true, Bool.false_eq_true, if_false, Sem.run_pure, Sem.run_bind, Result.andThen_ok, x3, y3, hq, Bool.false_and, Bool.true_and]
  cases (a3 == b3) <;> simp only [Bool.not_false, Bool.not_true, if_true, Bool.false_eq_true, if_false, Sem.run_pure, Sem.run_bind, Result.andThen_ok, x4, y4, hq, Bool.false_and, Bool.true_and]
  cases (a4 == b4) <;> simp only [Bool.not_false, Bool.not_true, if_true, Bool.false_eq_true, if_false, Sem.run_pure, Sem.run_bind, Result.andThen_ok, x5, y5, hq, Bool.false_and, Bool.true_and]
  cases (a5 == b5) <;> simp only [Bool.not_false, Bool.not_true, if_true, Bool.false_eq_true, if_false, Sem.run_pure, Sem.run_bind, Result.andThen_ok, x6, y6, hq, Bool.false_and, Bool.true_and]
  cases (a6 == b6) <;> simp only [Bool.not_false, Bool.not_true, if_true, Bool.false_eq_true, if_false, Sem.run_pure, Result.andThen_ok]

theorem eqR_arr7 {P : Program} {t e : Nat} (hu : P.underlying t = some (.array 7 e)) (he : P.underlying e = some .bool) (hst : ∀ w, (sizeOf e).run P w = .ok 1 w) (hg : P.eqGuardType P.depth t = false) :
    EqR P t (.agg [.raw (.bool false), .raw (.bool false), .raw (.bool false), .raw (.bool false), .raw (.bool false), .raw (.bool false), .raw (.bool false)]) := by
  intro xs ys b x y w hk hv
  have hl := vsEq_len hv
  have hx : ∃ a0 a1 a2 a3 a4 a5 a6, xs = #[Value.bool a0, .bool a1, .bool a2, .bool a3, .bool a4, .bool a5, .bool a6] := by
    obtain ⟨l⟩ := xs
    simp only [cellsOf, List.map_cons, List.map_nil, akind, vkind] at hk
    have hlen : l.length = 7 := by simpa using congrArg List.length hk
    match l, hlen, hk with
    | [v0, v1, v2, v3, v4, v5, v6], _, hk =>
      simp only [List.map_cons, List.map_nil, List.cons.injEq, and_true] at hk
      obtain ⟨h0, h1, h2, h3, h4, h5, h6⟩ := hk
      obtain ⟨a0, rfl⟩ := bool_of_kind h0; obtain ⟨a1, rfl⟩ := bool_of_kind h1; obtain ⟨a2, rfl⟩ := bool_of_kind h2; obtain ⟨a3, rfl⟩ := bool_of_kind h3
      obtain ⟨a4, rfl⟩ := bool_of_kind h4; obtain ⟨a5, rfl⟩ := bool_of_kind h5; obtain ⟨a6, rfl⟩ := bool_of_kind h6
      exact ⟨_, _, _, _, _, _, _, rfl⟩
  obtain ⟨a0, a1, a2, a3, a4, a5, a6, rfl⟩ := hx
  have hy : ∃ b0 b1 b2 b3 b4 b5 b6, ys = #[Value.bool b0, .bool b1, .bool b2, .bool b3, .bool b4, .bool b5, .bool b6] := by
    obtain ⟨l⟩ := ys
    have key : ∀ {c : Bool} {v : Value} {d : Bool}, vEq (.bool c) v = some d → ∃ b, v = .bool b := by
      intro c v d h
      unfold vEq at h
      split at h
      · rename_i e; cases e
      · rename_i e1; exact ⟨_, rfl⟩
      · cases h
    match l, hl with
    | [v0, v1, v2, v3, v4, v5, v6], hl =>
      simp only [vsEq] at hv
      cases h0 : vEq (.bool a0) v0 with
      | none => rw [h0] at hv; simp at hv
      | some d0 =>
      cases h1 : vEq (.bool a1) v1 with
      | none => rw [h1] at hv; simp at hv
      | some d1 =>
      cases h2 : vEq (.bool a2) v2 with
      | none => rw [h2] at hv; simp at hv
      | some d2 =>
      cases h3 : vEq (.bool a3) v3 with
      | none => rw [h3] at hv; simp at hv
      | some d3 =>
      cases h4 : vEq (.bool a4) v4 with
      | none => rw [h4] at hv; simp at hv
      | some d4 =>
      cases h5 : vEq (.bool a5) v5 with
      | none => rw [h5] at hv; simp at hv
      | some d5 =>
      cases h6 : vEq (.bool a6) v6 with
      | none => rw [h6] at hv; simp at hv
      | some d6 =>
      obtain ⟨b0, rfl⟩ := key h0; obtain ⟨b1, rfl⟩ := key h1; obtain ⟨b2, rfl⟩ := key h2; obtain ⟨b3, rfl⟩ := key h3
      obtain ⟨b4, rfl⟩ := key h4; obtain ⟨b5, rfl⟩ := key h5; obtain ⟨b6, rfl⟩ := key h6
      exact ⟨_, _, _, _, _, _, _, rfl⟩
  obtain ⟨b0, b1, b2, b3, b4, b5, b6, rfl⟩ := hy
  have hb : b = (a0 == b0 && (a1 == b1 && (a2 == b2 && (a3 == b3 && (a4 == b4 && (a5 == b5 && a6 == b6)))))) := by
    simpa [vsEq, vEq] using hv.symm
  have he : ∀ w, (Op.equalIn 10000 t (.agg #[.bool a0, .bool a1, .bool a2, .bool a3, .bool a4, .bool a5, .bool a6]) (.agg #[.bool b0, .bool b1, .bool b2, .bool b3, .bool b4, .bool b5, .bool b6])).run P w = .ok b w := fun w => by
    rw [hb]; exact eqArr7 (d := 9998) hu he (hst w)
  constructor
  · rw [Sem.run_bind, run_eqGuard_agg w .eql t x y _ _ hg, Result.andThen_ok, run_eql_struct, he]; rfl
  · rw [Sem.run_bind, run_eqGuard_agg w .neq t x y _ _ hg, Result.andThen_ok, run_neq_struct, he]; rfl

/-! ### the contract of a given function -/
theorem callP_of {P : Program} {T : TT} {O : List Nat} (hT : TOK P T) (hm : P.follows .mixedOrders = true) {f : FuncId} {fn : Func} {ac : ACode} {args : List AV} {r : AV} {N : Nat} {G : Nat → List Nat} {rs : List ResultVar}
    (hf : P.funcs[f]? = some fn) (hname : (fn.name == "runtime.NumGoroutine") = false) (hr : fn.results.toList = rs) (hN : fn.ntmps = N) (hs : fn.body.bind (strip N G) = some ac) (hn : args.length ≤ N)
    (h : vc P T O ac (Fin T rs r) ⟨envOf 0 args, []⟩) : CallP P f args r := by
  cases hb : fn.body with
  | none => rw [hb] at hs; cases hs
  | some c =>
    rw [hb] at hs
    subst hN hr
    exact callP_of_vc hT hm hf hb (fun e => by rw [e] at hname; simp at hname) hs hn h

theorem callO_of {P : Program} {T : TT} {O : List Nat} (hT : TOK P T) (hm : P.follows .mixedOrders = true) {f : FuncId} {fn : Func} {ac : ACode} {args : List AV} {sz : Nat} {els : List AV} {N : Nat} {G : Nat → List Nat} {rs : List ResultVar}
    (hf : P.funcs[f]? = some fn) (hname : (fn.name == "runtime.NumGoroutine") = false) (hr : fn.results.toList = rs) (hN : fn.ntmps = N) (hs : fn.body.bind (strip N G) = some ac) (hn : args.length ≤ N)
    (h : vc P T O ac (FinO rs sz els) ⟨envOf 0 args, []⟩) : CallO P f args sz els := callO_of_vc hT hm hf hname hr hN hs hn h
theorem callL_of {P : Program} {T : TT} {O : List Nat} (hT : TOK P T) (hm : P.follows .mixedOrders = true) {f : FuncId} {fn : Func} {ac : ACode} {pre suf : List AV} {sz : Nat} {els els' : List AV} {r : LRet} {N : Nat} {G : Nat → List Nat} {rs : List ResultVar}
    (hf : P.funcs[f]? = some fn) (hname : (fn.name == "runtime.NumGoroutine") = false) (hr : fn.results.toList = rs) (hN : fn.ntmps = N) (hs : fn.body.bind (strip N G) = some ac) (hn : (pre ++ .sl lid 0 0 els.length :: suf).length ≤ N)
    (h : vc P T O ac (FinL T rs sz r els') ⟨envOf 0 (pre ++ .sl lid 0 0 els.length :: suf), [(lid, some ⟨sz, els, 0, false⟩)]⟩) : CallL P f pre sz els suf r els' := callL_of_vc hT hm hf hname hr hN hs hn h

theorem callB_of {P : Program} {T : TT} {O : List Nat} (hT : TOK P T) (hm : P.follows .mixedOrders = true) {f : FuncId} {fn : Func} {ac : ACode} {as : List AV} {r : AV} {N : Nat} {G : Nat → List Nat} {rs : List ResultVar} {m m' : List (Nat × Option Box)}
    (hf : P.funcs[f]? = some fn) (hname : (fn.name == "runtime.NumGoroutine") = false) (hr : fn.results.toList = rs) (hN : fn.ntmps = N) (hs : fn.body.bind (strip N G) = some ac) (hn : as.length ≤ N) (hsome : (m.all fun p => p.2.isSome) = true)
    (h : vc P T O ac (FinB T rs m r m') ⟨envOf 0 as, m⟩) : CallB P f as m r m' := callB_of_vc hT hm hf hname hr hN hs hn hsome h
end Go.Abs
end

section
/- The value layer, part 37 (behind 24): equality of arrays of two numbers. -/
namespace Go.Abs

/-! ### tests that are known -/
theorem CondK.tt {a b : Prop} (h : a) : CondK (.raw (.bool true)) a b := CondK.intro (fun _ => h) (fun h => by simp at h)
theorem CondK.ff {a b : Prop} (h : b) : CondK (.raw (.bool false)) a b := CondK.intro (fun h => by simp at h) (fun _ => h)
end Go.Abs
end

section
/- The value layer, part 25: how a proof steps through code (rules for simp). -/
namespace Go.Abs

section
variable {P : Program} {T : TT} {O : List Nat} {Q : AExit → St → Prop} {s : St}
@[simp] theorem PreK_true {K : Prop} : PreK True K = K := by simp [PreK]
@[simp] theorem vc_skip : vc P T O .skip Q s = Q .normal s := Eq.trans rfl rfl
@[simp] theorem vc_reg {gs : List Nat} {ops : List AOper} : vc P T O (.reg gs ops) Q s = frzs gs (vcOps P T O ops (Q .normal)) s := Eq.trans rfl rfl
@[simp] theorem vc_draw {gs : List Nat} {ops : List AOper} {pairs : List (Nat × Nat)} : vc P T O (.draw gs ops pairs) Q s = frzs gs (vcDraw P T O ops (fun acc s' => PreK (apartAll acc pairs = true) (Q .normal s')) []) s := Eq.trans rfl rfl
@[simp] theorem vc_seq {a b : ACode} : vc P T O (.seq a b) Q s = vc P T O a (thenQ (vc P T O b Q) Q) s := Eq.trans rfl rfl
@[simp] theorem vc_cond {c : Operand} {a b : ACode} : vc P T O (.cond c a b) Q s = CondK (ev s.env c) (vc P T O a Q s) (vc P T O b Q s) := Eq.trans rfl rfl
@[simp] theorem vc_block {i : Nat} {b : ACode} : vc P T O (.block i b) Q s = vc P T O b (blockQ i Q) s := Eq.trans rfl rfl
@[simp] theorem vc_loop {b : ACode} : vc P T O (.loop b) Q s = LoopK (vc P T O b) Q s := Eq.trans rfl rfl
@[simp] theorem vc_exit {i : Nat} : vc P T O (.exit i) Q s = Q (.exit i) s := Eq.trans rfl rfl
@[simp] theorem vc_ret : vc P T O .ret Q s = Q .ret s := Eq.trans rfl rfl
@[simp] theorem thenQ_normal {K : St → Prop} : thenQ K Q .normal s = K s := Eq.trans rfl rfl
@[simp] theorem thenQ_exit {K : St → Prop} {i : Nat} : thenQ K Q (.exit i) s = Q (.exit i) s := Eq.trans rfl rfl
@[simp] theorem thenQ_ret {K : St → Prop} : thenQ K Q .ret s = Q .ret s := Eq.trans rfl rfl
@[simp] theorem blockQ_normal {i : Nat} : blockQ i Q .normal s = Q .normal s := Eq.trans rfl rfl
@[simp] theorem blockQ_exit {i j : Nat} : blockQ i Q (.exit j) s = if j = i then Q .normal s else Q (.exit j) s := Eq.trans rfl rfl
@[simp] theorem blockQ_ret {i : Nat} : blockQ i Q .ret s = Q .ret s := Eq.trans rfl rfl
@[simp] theorem vcOps_nil {K : St → Prop} : vcOps P T O [] K s = K s := Eq.trans rfl rfl
@[simp] theorem isCall_move (x : Operand) : isCall (.move x) = none := Eq.trans rfl rfl
@[simp] theorem isNilCmp_move (x : Operand) : isNilCmp (.move x) = none := Eq.trans rfl rfl
@[simp] theorem isCall_assign (x : Operand) : isCall (.assign x) = none := Eq.trans rfl rfl
@[simp] theorem isNilCmp_assign (x : Operand) : isNilCmp (.assign x) = none := Eq.trans rfl rfl
@[simp] theorem isCall_pick (c a b : Operand) : isCall (.pick c a b) = none := Eq.trans rfl rfl
@[simp] theorem isNilCmp_pick (c a b : Operand) : isNilCmp (.pick c a b) = none := Eq.trans rfl rfl
@[simp] theorem isCall_alloc (t : Nat) : isCall (.alloc t) = none := Eq.trans rfl rfl
@[simp] theorem isNilCmp_alloc (t : Nat) : isNilCmp (.alloc t) = none := Eq.trans rfl rfl
@[simp] theorem isCall_box (t : Nat) (x : Operand) : isCall (.box t x) = none := Eq.trans rfl rfl
@[simp] theorem isNilCmp_box (t : Nat) (x : Operand) : isNilCmp (.box t x) = none := Eq.trans rfl rfl
@[simp] theorem isCall_build (t : Nat) (p : Array (Nat × Operand)) : isCall (.build t p) = none := Eq.trans rfl rfl
@[simp] theorem isNilCmp_build (t : Nat) (p : Array (Nat × Operand)) : isNilCmp (.build t p) = none := Eq.trans rfl rfl
@[simp] theorem isCall_buildSlice (t n : Nat) (p : Array (Nat × Operand)) : isCall (.buildSlice t n p) = none := Eq.trans rfl rfl
@[simp] theorem isNilCmp_buildSlice (t n : Nat) (p : Array (Nat × Operand)) : isNilCmp (.buildSlice t n p) = none := Eq.trans rfl rfl
@[simp] theorem isCall_load (t : Nat) (x : Operand) : isCall (.load t x) = none := Eq.trans rfl rfl
@[simp] theorem isNilCmp_load (t : Nat) (x : Operand) : isNilCmp (.load t x) = none := Eq.trans rfl rfl
@[simp] theorem isCall_store (t : Nat) (x y : Operand) : isCall (.store t x y) = none := Eq.trans rfl rfl
@[simp] theorem isNilCmp_store (t : Nat) (x y : Operand) : isNilCmp (.store t x y) = none := Eq.trans rfl rfl
@[simp] theorem isCall_nilCheck (x : Operand) : isCall (.nilCheck x) = none := Eq.trans rfl rfl
@[simp] theorem isNilCmp_nilCheck (x : Operand) : isNilCmp (.nilCheck x) = none := Eq.trans rfl rfl
@[simp] theorem isCall_unOp (o : UnOp) (t : Nat) (x : Operand) : isCall (.unOp o t x) = none := Eq.trans rfl rfl
@[simp] theorem isNilCmp_unOp (o : UnOp) (t : Nat) (x : Operand) : isNilCmp (.unOp o t x) = none := Eq.trans rfl rfl
@[simp] theorem isCall_convert (t u : Nat) (x : Operand) : isCall (.convert t u x) = none := Eq.trans rfl rfl
@[simp] theorem isNilCmp_convert (t u : Nat) (x : Operand) : isNilCmp (.convert t u x) = none := Eq.trans rfl rfl
@[simp] theorem isCall_makeFunc (fn : Fn) (a b : Array Operand) : isCall (.makeFunc fn a b) = none := Eq.trans rfl rfl
@[simp] theorem isNilCmp_makeFunc (fn : Fn) (a b : Array Operand) : isNilCmp (.makeFunc fn a b) = none := Eq.trans rfl rfl
@[simp] theorem isCall_makeSlice (t : Nat) (x y : Operand) : isCall (.makeSlice t x y) = none := Eq.trans rfl rfl
@[simp] theorem isNilCmp_makeSlice (t : Nat) (x y : Operand) : isNilCmp (.makeSlice t x y) = none := Eq.trans rfl rfl
@[simp] theorem isCall_slice (t : Nat) (x : Operand) (a b c : Option Operand) : isCall (.slice t x a b c) = none := Eq.trans rfl rfl
@[simp] theorem isNilCmp_slice (t : Nat) (x : Operand) (a b c : Option Operand) : isNilCmp (.slice t x a b c) = none := Eq.trans rfl rfl
@[simp] theorem isCall_fieldAddr (t : Nat) (x : Operand) (k : Nat) : isCall (.fieldAddr t x k) = none := Eq.trans rfl rfl
@[simp] theorem isNilCmp_fieldAddr (t : Nat) (x : Operand) (k : Nat) : isNilCmp (.fieldAddr t x k) = none := Eq.trans rfl rfl
@[simp] theorem isCall_field (t : Nat) (x : Operand) (k : Nat) : isCall (.field t x k) = none := Eq.trans rfl rfl
@[simp] theorem isNilCmp_field (t : Nat) (x : Operand) (k : Nat) : isNilCmp (.field t x k) = none := Eq.trans rfl rfl
@[simp] theorem isCall_indexAddr (t : Nat) (x y : Operand) : isCall (.indexAddr t x y) = none := Eq.trans rfl rfl
@[simp] theorem isNilCmp_indexAddr (t : Nat) (x y : Operand) : isNilCmp (.indexAddr t x y) = none := Eq.trans rfl rfl
@[simp] theorem isCall_index (t : Nat) (x y : Operand) : isCall (.index t x y) = none := Eq.trans rfl rfl
@[simp] theorem isNilCmp_index (t : Nat) (x y : Operand) : isNilCmp (.index t x y) = none := Eq.trans rfl rfl
@[simp] theorem isCall_extract (x : Operand) (k : Nat) : isCall (.extract x k) = none := Eq.trans rfl rfl
@[simp] theorem isNilCmp_extract (x : Operand) (k : Nat) : isNilCmp (.extract x k) = none := Eq.trans rfl rfl
@[simp] theorem isCall_call {f : Operand} {a : Array Operand} {t : Array Nat} : isCall (.call ⟨.value f, a, t⟩) = some (f, t.toList, a.toList) := Eq.trans rfl rfl
@[simp] theorem isCall_builtin {b : Builtin} {a : Array Operand} {t : Array Nat} : isCall (.call ⟨.builtin b, a, t⟩) = none := Eq.trans rfl rfl
@[simp] theorem isNilCmp_call {c : Call} : isNilCmp (.call c) = none := Eq.trans rfl rfl
@[simp] theorem isCall_binOp {o : BinOp} {t u : Nat} {x y : Operand} : isCall (.binOp o t x y u) = none := Eq.trans rfl rfl
@[simp] theorem isNilCmp_tmp {o : BinOp} {t u k : Nat} {x : Operand} : isNilCmp (.binOp o t x (.tmp k) u) = none := by cases o <;> rfl
@[simp] theorem isNilCmp_int {o : BinOp} {t u : Nat} {k : IntKind} {n : Int} {x : Operand} : isNilCmp (.binOp o t x (.const (.int k n)) u) = none := by cases o <;> rfl
@[simp] theorem isNilCmp_bool {o : BinOp} {t u : Nat} {b : Bool} {x : Operand} : isNilCmp (.binOp o t x (.const (.bool b)) u) = none := by cases o <;> rfl
@[simp] theorem isNilCmp_agg {o : BinOp} {t u : Nat} {c : Array Value} {x : Operand} : isNilCmp (.binOp o t x (.const (.agg c)) u) = none := by cases o <;> rfl
@[simp] theorem isMv_move (x : Operand) : isMv (.move x) = true := Eq.trans rfl rfl
@[simp] theorem isMv_assign (x : Operand) : isMv (.assign x) = true := Eq.trans rfl rfl
@[simp] theorem isMv_pick (c a b : Operand) : isMv (.pick c a b) = false := Eq.trans rfl rfl
@[simp] theorem isMv_alloc (t : Nat) : isMv (.alloc t) = false := Eq.trans rfl rfl
@[simp] theorem isMv_box (t : Nat) (x : Operand) : isMv (.box t x) = false := Eq.trans rfl rfl
@[simp] theorem isMv_build (t : Nat) (p : Array (Nat × Operand)) : isMv (.build t p) = false := Eq.trans rfl rfl
@[simp] theorem isMv_load (t : Nat) (x : Operand) : isMv (.load t x) = false := Eq.trans rfl rfl
@[simp] theorem isMv_store (t : Nat) (x y : Operand) : isMv (.store t x y) = false := Eq.trans rfl rfl
@[simp] theorem isMv_nilCheck (x : Operand) : isMv (.nilCheck x) = false := Eq.trans rfl rfl
@[simp] theorem isMv_unOp (o : UnOp) (t : Nat) (x : Operand) : isMv (.unOp o t x) = false := Eq.trans rfl rfl
@[simp] theorem isMv_convert (t u : Nat) (x : Operand) : isMv (.convert t u x) = false := Eq.trans rfl rfl
@[simp] theorem isMv_makeFunc (fn : Fn) (a b : Array Operand) : isMv (.makeFunc fn a b) = false := Eq.trans rfl rfl
@[simp] theorem isMv_makeSlice (t : Nat) (x y : Operand) : isMv (.makeSlice t x y) = false := Eq.trans rfl rfl
@[simp] theorem isMv_slice (t : Nat) (x : Operand) (a b c : Option Operand) : isMv (.slice t x a b c) = false := Eq.trans rfl rfl
@[simp] theorem isMv_fieldAddr (t : Nat) (x : Operand) (k : Nat) : isMv (.fieldAddr t x k) = false := Eq.trans rfl rfl
@[simp] theorem isMv_field (t : Nat) (x : Operand) (k : Nat) : isMv (.field t x k) = false := Eq.trans rfl rfl
@[simp] theorem isMv_indexAddr (t : Nat) (x y : Operand) : isMv (.indexAddr t x y) = false := Eq.trans rfl rfl
@[simp] theorem isMv_index (t : Nat) (x y : Operand) : isMv (.index t x y) = false := Eq.trans rfl rfl
@[simp] theorem isMv_extract (x : Operand) (k : Nat) : isMv (.extract x k) = false := Eq.trans rfl rfl
@[simp] theorem isMv_builtin {b : Builtin} {a : Array Operand} {t : Array Nat} : isMv (.call ⟨.builtin b, a, t⟩) = false := Eq.trans rfl rfl
@[simp] theorem isMv_binOp {o : BinOp} {t u : Nat} {x y : Operand} : isMv (.binOp o t x y u) = false := Eq.trans rfl rfl
@[simp] theorem isMv_call {c : Call} : isMv (.call c) = false := Eq.trans rfl rfl
@[simp] theorem isMv_buildSlice (t n : Nat) (p : Array (Nat × Operand)) : isMv (.buildSlice t n p) = false := Eq.trans rfl rfl
@[simp] theorem isBS_move (x : Operand) : isBS (.move x) = false := Eq.trans rfl rfl
@[simp] theorem isBS_assign (x : Operand) : isBS (.assign x) = false := Eq.trans rfl rfl
@[simp] theorem isBS_pick (c a b : Operand) : isBS (.pick c a b) = false := Eq.trans rfl rfl
@[simp] theorem isBS_alloc (t : Nat) : isBS (.alloc t) = false := Eq.trans rfl rfl
@[simp] theorem isBS_box (t : Nat) (x : Operand) : isBS (.box t x) = false := Eq.trans rfl rfl
@[simp] theorem isBS_build (t : Nat) (p : Array (Nat × Operand)) : isBS (.build t p) = false := Eq.trans rfl rfl
@[simp] theorem isBS_load (t : Nat) (x : Operand) : isBS (.load t x) = false := Eq.trans rfl rfl
@[simp] theorem isBS_store (t : Nat) (x y : Operand) : isBS (.store t x y) = false := Eq.trans rfl rfl
@[simp] theorem isBS_nilCheck (x : Operand) : isBS (.nilCheck x) = false := Eq.trans rfl rfl
@[simp] theorem isBS_unOp (o : UnOp) (t : Nat) (x : Operand) : isBS (.unOp o t x) = false := Eq.trans rfl rfl
@[simp] theorem isBS_convert (t u : Nat) (x : Operand) : isBS (.convert t u x) = false := Eq.trans rfl rfl
@[simp] theorem isBS_makeFunc (fn : Fn) (a b : Array Operand) : isBS (.makeFunc fn a b) = false := Eq.trans rfl rfl
@[simp] theorem isBS_makeSlice (t : Nat) (x y : Operand) : isBS (.makeSlice t x y) = false := Eq.trans rfl rfl
@[simp] theorem isBS_slice (t : Nat) (x : Operand) (a b c : Option Operand) : isBS (.slice t x a b c) = false := Eq.trans rfl rfl
@[simp] theorem isBS_fieldAddr (t : Nat) (x : Operand) (k : Nat) : isBS (.fieldAddr t x k) = false := Eq.trans rfl rfl
@[simp] theorem isBS_field (t : Nat) (x : Operand) (k : Nat) : isBS (.field t x k) = false := Eq.trans rfl rfl
@[simp] theorem isBS_indexAddr (t : Nat) (x y : Operand) : isBS (.indexAddr t x y) = false := Eq.trans rfl rfl
@[simp] theorem isBS_index (t : Nat) (x y : Operand) : isBS (.index t x y) = false := Eq.trans rfl rfl
@[simp] theorem isBS_extract (x : Operand) (k : Nat) : isBS (.extract x k) = false := Eq.trans rfl rfl
@[simp] theorem isBS_builtin {b : Builtin} {a : Array Operand} {t : Array Nat} : isBS (.call ⟨.builtin b, a, t⟩) = false := Eq.trans rfl rfl
@[simp] theorem isBS_binOp {o : BinOp} {t u : Nat} {x y : Operand} : isBS (.binOp o t x y u) = false := Eq.trans rfl rfl
@[simp] theorem isBS_call {c : Call} : isBS (.call c) = false := Eq.trans rfl rfl
@[simp] theorem vcOps_cons {d : Option Nat} {op : Op} {ty : Nat} {g : Option (Nat × Bool)} {l : List AOper} {K : St → Prop} (h : isNilCmp op = none) (h2 : isCall op = none) (h3 : isBS op = false) : vcOps P T O (⟨d, op, ty, g⟩ :: l) K s = vcOp P T O ⟨d, op, ty, g⟩ s (vcOps P T O l K) := by
  simp only [vcOps, h, h2, preFrz_none (o := ⟨d, op, ty, g⟩) h3, frzs]
/-- Boxes become immutable ahead of an operation. -/
def FrzO (ids : List Nat) (F : St → Prop) (s : St) (_t : Tag F := ()) : Prop := frzs ids F s
def FindO (x : Option Box) (F : Box → Prop) (_t : Tag F := ()) : Prop := match x with | some b => F b | none => False
@[simp] theorem FindO_some {b : Box} {F : Box → Prop} : FindO (some b) F = F b := Eq.trans rfl rfl
@[simp] theorem FrzO_nil {F : St → Prop} : FrzO [] F s = F s := Eq.trans rfl rfl
@[simp] theorem FrzO_cons {id : Nat} {l : List Nat} {F : St → Prop} : FrzO (id :: l) F s = FindO (find s.mem id) (fun b => PreK (b.var = true → AV.refsL b.els = []) (FrzO l F (frzSt s id b))) := by
  simp only [FrzO, frzs, FindO]
  all_goals (cases find s.mem id <;> rfl)
@[simp] theorem vcOps_bs {d : Option Nat} {t n : Nat} {p : Array (Nat × Operand)} {ty : Nat} {l : List AOper} {K : St → Prop} : vcOps P T O (⟨d, .buildSlice t n p, ty, none⟩ :: l) K s = FrzO (ownIds s.mem (AV.refsL (p.toList.map fun q => st (ev s.env q.2)))) (fun s' => vcOp P T O ⟨d, .buildSlice t n p, ty, none⟩ s' (vcOps P T O l K)) s := by
  simp only [vcOps, isNilCmp_buildSlice, isCall_buildSlice, preFrz, FrzO]
@[simp] theorem vcOps_bsg {d : Option Nat} {t n : Nat} {p : Array (Nat × Operand)} {ty : Nat} {g : Nat × Bool} {l : List AOper} {K : St → Prop} : vcOps P T O (⟨d, .buildSlice t n p, ty, some g⟩ :: l) K s = vcOp P T O ⟨d, .buildSlice t n p, ty, some g⟩ s (vcOps P T O l K) := by
  simp only [vcOps, isNilCmp_buildSlice, isCall_buildSlice, preFrz_guard (o := ⟨d, .buildSlice t n p, ty, some g⟩) rfl, frzs]
@[simp] theorem vcOps_guardedB {d : Option Nat} {b : Builtin} {ts : Array Nat} {args : Array Operand} {ty : Nat} {g : Nat × Bool} {l : List AOper} {K : St → Prop} : vcOps P T O (⟨d, .call ⟨.builtin b, args, ts⟩, ty, some g⟩ :: l) K s = vcOp P T O ⟨d, .call ⟨.builtin b, args, ts⟩, ty, some g⟩ s (vcOps P T O l K) := by
  simp only [vcOps, isNilCmp_call, isCall_builtin, preFrz_guard (o := ⟨d, .call ⟨.builtin b, args, ts⟩, ty, some g⟩) rfl, frzs]
@[simp] theorem vcOps_nilEq {d : Option Nat} {t t' ty : Nat} {x : Operand} {l : List AOper} {K : St → Prop} :
    vcOps P T O (⟨d, .binOp .eql t x (.const (.slice none 0 0)) t', ty, none⟩ :: l) K s = PreK (nilOK T t = true ∧ nilArg s.mem (st (ev s.env x)) ∧ sg (ev s.env x)) (NilK (nilOf (st (ev s.env x))) fun b => vcOps P T O l K (s.app d (.raw (.bool (b == true))) [])) := Eq.trans rfl rfl
@[simp] theorem vcOps_nilNe {d : Option Nat} {t t' ty : Nat} {x : Operand} {l : List AOper} {K : St → Prop} :
    vcOps P T O (⟨d, .binOp .neq t x (.const (.slice none 0 0)) t', ty, none⟩ :: l) K s = PreK (nilOK T t = true ∧ nilArg s.mem (st (ev s.env x)) ∧ sg (ev s.env x)) (NilK (nilOf (st (ev s.env x))) fun b => vcOps P T O l K (s.app d (.raw (.bool (b == false))) [])) := Eq.trans rfl rfl
/-- A condition that is known. -/
def GuardK (x : Option Bool) (F : Bool → Prop) (_t : Tag F := ()) : Prop := match x with | some c => F c | none => False
@[simp] theorem GuardK_some {c : Bool} {F : Bool → Prop} : GuardK (some c) F = F c := Eq.trans rfl rfl
def TgtK (x : Option (FuncId × List AV)) (F : FuncId → List AV → Prop) (_t : Tag F := ()) : Prop := match x with | some (g, as) => F g as | none => False
@[simp] theorem TgtK_some {g : FuncId} {as : List AV} {F : FuncId → List AV → Prop} : TgtK (some (g, as)) F = F g as := Eq.trans rfl rfl
@[simp] theorem vcOps_call {d : Option Nat} {f : Operand} {args : Array Operand} {ts : Array Nat} {ty : Nat} {l : List AOper} {K : St → Prop} :
    vcOps P T O (⟨d, .call ⟨.value f, args, ts⟩, ty, none⟩ :: l) K s = TgtK (tgt (st (ev s.env f)) (nrmL T ts.toList (args.toList.map fun x => st (ev s.env x)))) (fun g as =>
      PreK (firms s.env (firm (.call ⟨.value f, args, ts⟩))) (CallX P s d g as fun s' r up => vcOps P T O l K (s'.app d r up))) := by
  simp only [vcOps, isNilCmp_call, isCall_call, TgtK]
  all_goals (cases tgt (st (ev s.env f)) (nrmL T ts.toList (args.toList.map fun x => st (ev s.env x))) <;> rfl)
@[simp] theorem vcOps_guarded {d : Option Nat} {f : Operand} {args : Array Operand} {ts : Array Nat} {ty g0 : Nat} {want : Bool} {l : List AOper} {K : St → Prop} :
    vcOps P T O (⟨d, .call ⟨.value f, args, ts⟩, ty, some (g0, want)⟩ :: l) K s = GuardK (guardOf (get s.env g0) want) (fun c => TgtK (tgt (st (ev s.env f)) (nrmL T ts.toList (args.toList.map fun x => st (ev s.env x)))) (fun g as =>
      PreK (c = true → firms s.env (firm (.call ⟨.value f, args, ts⟩))) (CallG P c g (snapL s.mem as) (snapOKL s.mem as) (AV.refsL as).isEmpty (fun r => vcOps P T O l K (s.app d (.maybe c r) [])) (c = true ∧ CallX P s d g as fun s' r up => vcOps P T O l K (s'.app d r up))))) := by
  simp only [vcOps, isNilCmp_call, isCall_call, TgtK, GuardK]
  all_goals (cases guardOf (get s.env g0) want with
    | none => rfl
    | some c => cases tgt (st (ev s.env f)) (nrmL T ts.toList (args.toList.map fun x => st (ev s.env x))) <;> rfl)
def FindK (x : Option Box) (F : Box → Prop) (_t : Tag F := ()) : Prop := match x with | some b => F b | none => False
@[simp] theorem FindK_some {b : Box} {F : Box → Prop} : FindK (some b) F = F b := Eq.trans rfl rfl
@[simp] theorem vcOp_plain {d : Option Nat} {op : Op} {ty : Nat} {K : St → Prop} : vcOp P T O ⟨d, op, ty, none⟩ s K = vcStep P T O ⟨d, op, ty, none⟩ s K := Eq.trans rfl rfl
@[simp] theorem vcOp_guard {d : Option Nat} {op : Op} {ty g : Nat} {want : Bool} {K : St → Prop} :
    vcOp P T O ⟨d, op, ty, some (g, want)⟩ s K = GuardK (guardOf (get s.env g) want) (fun c => vcGuard P T O ⟨d, op, ty, some (g, want)⟩ c s K) := by
  simp only [vcOp, GuardK]
  all_goals (cases guardOf (get s.env g) want <;> rfl)
@[simp] theorem vcStep_call {d : Option Nat} {f : Operand} {args : Array Operand} {ts : Array Nat} {ty : Nat} {gu : Option (Nat × Bool)} {K : St → Prop} :
    vcStep P T O ⟨d, .call ⟨.value f, args, ts⟩, ty, gu⟩ s K = TgtK (tgt (st (ev s.env f)) (nrmL T ts.toList (args.toList.map fun x => st (ev s.env x)))) (fun g as =>
      PreK (firms s.env (firm (.call ⟨.value f, args, ts⟩))) (CallS P g (snapL s.mem as) (snapOKL s.mem as) (AV.refsL as).isEmpty fun r => K (s.app d r []))) := by
  simp only [vcStep, isCall, TgtK]
  all_goals (cases tgt (st (ev s.env f)) (nrmL T ts.toList (args.toList.map fun x => st (ev s.env x))) <;> rfl)
@[simp] theorem vcStep_op {d : Option Nat} {op : Op} {ty : Nat} {gu : Option (Nat × Bool)} {K : St → Prop} (h : isCall op = none) :
    vcStep P T O ⟨d, op, ty, gu⟩ s K = PreK ((opE T O s.mem (d.getD 0) ty s.env op).pre ∧ firms s.env (firm op)) (K (s.app d (opE T O s.mem (d.getD 0) ty s.env op).val (opE T O s.mem (d.getD 0) ty s.env op).up)) := by
  simp only [vcStep, h]
@[simp] theorem vcGuard_call {d : Option Nat} {f : Operand} {args : Array Operand} {ts : Array Nat} {ty : Nat} {gu : Option (Nat × Bool)} {c : Bool} {K : St → Prop} :
    vcGuard P T O ⟨d, .call ⟨.value f, args, ts⟩, ty, gu⟩ c s K = TgtK (tgt (st (ev s.env f)) (nrmL T ts.toList (args.toList.map fun x => st (ev s.env x)))) (fun g as =>
      PreK (c = true → firms s.env (firm (.call ⟨.value f, args, ts⟩))) (CallG P c g (snapL s.mem as) (snapOKL s.mem as) (AV.refsL as).isEmpty (fun r => K (s.app d (.maybe c r) [])) False)) := by
  simp only [vcGuard, isCall, TgtK]
  all_goals (cases tgt (st (ev s.env f)) (nrmL T ts.toList (args.toList.map fun x => st (ev s.env x))) <;> rfl)
@[simp] theorem vcGuard_op {d : Option Nat} {op : Op} {ty : Nat} {gu : Option (Nat × Bool)} {c : Bool} {K : St → Prop} (h : isCall op = none) :
    vcGuard P T O ⟨d, op, ty, gu⟩ c s K = PreK (c = true → (opE T O s.mem (d.getD 0) ty s.env op).pre ∧ firms s.env (firm op))
      (K (s.app d (.maybe c (opE T O s.mem (d.getD 0) ty s.env op).val) (if c = false then [] else (opE T O s.mem (d.getD 0) ty s.env op).up))) := by
  simp only [vcGuard, h]
@[simp] theorem FinO_normal {rs : List ResultVar} {sz : Nat} {els : List AV} : FinO rs sz els .normal s = FinO rs sz els .ret s := Eq.trans rfl rfl
@[simp] theorem FinO_ret {t : Nat} {sz : Nat} {els : List AV} : FinO [.tmp t] sz els .ret s = OwnK s.mem sz els (get s.env t) := Eq.trans rfl rfl
@[simp] theorem FinT_normal {rs : List ResultVar} {sz : Nat} {els : List AV} {u : Value} : FinT rs sz els u .normal s = FinT rs sz els u .ret s := Eq.trans rfl rfl
@[simp] theorem FinT_ret {t t' : Nat} {sz : Nat} {els : List AV} {u : Value} : FinT [.tmp t, .tmp t'] sz els u .ret s = (OwnK s.mem sz els (get s.env t) ∧ get s.env t' = .raw u) := Eq.trans rfl rfl
@[simp] theorem FinL_normal {rs : List ResultVar} {sz : Nat} {r : LRet} {els' : List AV} : FinL T rs sz r els' .normal s = (LentK s.mem sz els' ∧ LRetK T s rs r) := Eq.trans rfl rfl
@[simp] theorem FinL_ret {rs : List ResultVar} {sz : Nat} {r : LRet} {els' : List AV} : FinL T rs sz r els' .ret s = (LentK s.mem sz els' ∧ LRetK T s rs r) := Eq.trans rfl rfl
@[simp] theorem FinB_normal {rs : List ResultVar} {m : List (Nat × Option Box)} {r : AV} {m' : List (Nat × Option Box)} : FinB T rs m r m' .normal s = (LentB s.mem m' ∧ (m.map (·.1) = m'.map (·.1) ∧ inKeysM (m.map (·.1)) m' = true ∧ inKeys (m.map (·.1)) r.refs = true) ∧ resL T s rs ∧ resA (resV T s rs) = r) := Eq.trans rfl rfl
@[simp] theorem FinB_ret {rs : List ResultVar} {m : List (Nat × Option Box)} {r : AV} {m' : List (Nat × Option Box)} : FinB T rs m r m' .ret s = (LentB s.mem m' ∧ (m.map (·.1) = m'.map (·.1) ∧ inKeysM (m.map (·.1)) m' = true ∧ inKeys (m.map (·.1)) r.refs = true) ∧ resL T s rs ∧ resA (resV T s rs) = r) := Eq.trans rfl rfl
@[simp] theorem Fin_normal {rs : List ResultVar} {r : AV} : Fin T rs r .normal s = PreK (resL T s rs ∧ snapOK s.mem (resA (resV T s rs))) (snap s.mem (resA (resV T s rs)) = r) := Eq.trans rfl rfl
@[simp] theorem Fin_ret {rs : List ResultVar} {r : AV} : Fin T rs r .ret s = PreK (resL T s rs ∧ snapOK s.mem (resA (resV T s rs))) (snap s.mem (resA (resV T s rs)) = r) := Eq.trans rfl rfl
@[simp] theorem vcDraw_nil {K : List (List Nat × List Nat) → St → Prop} {acc : List (List Nat × List Nat)} : vcDraw P T O [] K acc s = K acc s := Eq.trans rfl rfl
theorem vcDraw_cons0 {o : AOper} {l : List AOper} {K : List (List Nat × List Nat) → St → Prop} {acc : List (List Nat × List Nat)} :
    vcDraw P T O (o :: l) K acc s = match isCall o.op, o.guard with
    | some (f, ts, xs), none => match tgt (st (ev s.env f)) (nrmL T ts (xs.map fun x => st (ev s.env x))) with
      | some (g, as) => PreK (firms s.env (firm o.op)) (CallK P s.mem as (idsOf o s.env) g (snapL s.mem as) (snapOKL s.mem as) (AV.refsL as).isEmpty fun r up F => vcDraw P T O l K (acc ++ [(F, up.map (·.1))]) (s.app o.dst r up))
      | none => False
    | _, _ => vcOp P T O o s (vcDraw P T O l K (acc ++ [(idsOf o s.env, upKeys T O o s)])) := Eq.trans rfl rfl
@[simp] theorem vcDraw_op {d : Option Nat} {op : Op} {ty : Nat} {gu : Option (Nat × Bool)} {l : List AOper} {K : List (List Nat × List Nat) → St → Prop} {acc : List (List Nat × List Nat)} (h : isCall op = none) :
    vcDraw P T O (⟨d, op, ty, gu⟩ :: l) K acc s = vcOp P T O ⟨d, op, ty, gu⟩ s (vcDraw P T O l K (acc ++ [(idsOf ⟨d, op, ty, gu⟩ s.env, upKeys T O ⟨d, op, ty, gu⟩ s)])) := by
  rw [vcDraw_cons0]
  simp only [h]
@[simp] theorem vcDraw_guard {d : Option Nat} {op : Op} {ty : Nat} {gu : Nat × Bool} {l : List AOper} {K : List (List Nat × List Nat) → St → Prop} {acc : List (List Nat × List Nat)} :
    vcDraw P T O (⟨d, op, ty, some gu⟩ :: l) K acc s = vcOp P T O ⟨d, op, ty, some gu⟩ s (vcDraw P T O l K (acc ++ [(idsOf ⟨d, op, ty, some gu⟩ s.env, upKeys T O ⟨d, op, ty, some gu⟩ s)])) := by
  rw [vcDraw_cons0]
  cases isCall op <;> rfl
@[simp] theorem vcDraw_call {d : Option Nat} {f : Operand} {args : Array Operand} {ts : Array Nat} {ty : Nat} {l : List AOper} {K : List (List Nat × List Nat) → St → Prop} {acc : List (List Nat × List Nat)} :
    vcDraw P T O (⟨d, .call ⟨.value f, args, ts⟩, ty, none⟩ :: l) K acc s = TgtK (tgt (st (ev s.env f)) (nrmL T ts.toList (args.toList.map fun x => st (ev s.env x)))) (fun g as =>
      PreK (firms s.env (firm (.call ⟨.value f, args, ts⟩))) (CallK P s.mem as (idsOf ⟨d, .call ⟨.value f, args, ts⟩, ty, none⟩ s.env) g (snapL s.mem as) (snapOKL s.mem as) (AV.refsL as).isEmpty fun r up F => vcDraw P T O l K (acc ++ [(F, up.map (·.1))]) (s.app d r up))) := by
  rw [vcDraw_cons0]
  simp only [isCall, TgtK]
  all_goals (cases tgt (st (ev s.env f)) (nrmL T ts.toList (args.toList.map fun x => st (ev s.env x))) <;> rfl)
@[simp] theorem frzs_nil {K : St → Prop} : frzs [] K s = K s := Eq.trans rfl rfl
@[simp] theorem frzs_cons {id : Nat} {l : List Nat} {K : St → Prop} : frzs (id :: l) K s = FindK (find s.mem id) (fun b => PreK (b.var = true → AV.refsL b.els = []) (frzs l K (frzSt s id b))) := by
  simp only [frzs, FindK]
  all_goals (cases find s.mem id <;> rfl)

/-- A loop, by its states at the head; at the end of a round own boxes may become immutable. -/
theorem LoopK.byF {F : (AExit → St → Prop) → St → Prop} {ι : Type} (I : ι → St) (m : ι → Nat) (Pre : ι → Prop) (i0 : ι) (hp : Pre i0) (h0 : le s (I i0))
    (h : ∀ (i : ι) (Q' : AExit → St → Prop), Pre i → (∀ j s', Pre j → m j < m i → le s' (I j) → Q' .normal s') → (∀ n s', Q (.exit n) s' → Q' (.exit n) s') → (∀ s', Q .ret s' → Q' .ret s') → (∀ id b s', find s'.mem id = some b → (b.var = true → AV.refsL b.els = []) → Q' .normal (frzSt s' id b) → Q' .normal s') → F Q' (I i)) : LoopK F Q s :=
  ⟨[], { i // Pre i }, fun i => I i.1, fun i => m i.1, ⟨⟨i0, hp⟩, h0⟩, fun i => h i.1 _ i.2 (fun j s' hj hm hl => ⟨[], ⟨j, hj⟩, hl, hm⟩) (fun _ _ h => h) (fun _ h => h)
    fun id b s' hf hv hq => by
      obtain ⟨ids, hq⟩ := hq
      exact ⟨id :: ids, by simp only [frzs, hf]; exact ⟨hv, hq⟩⟩⟩
theorem LoopK.by {F : (AExit → St → Prop) → St → Prop} {ι : Type} (I : ι → St) (m : ι → Nat) (Pre : ι → Prop) (i0 : ι) (hp : Pre i0) (h0 : le s (I i0))
    (h : ∀ (i : ι) (Q' : AExit → St → Prop), Pre i → (∀ j s', Pre j → m j < m i → le s' (I j) → Q' .normal s') → (∀ n s', Q (.exit n) s' → Q' (.exit n) s') → (∀ s', Q .ret s' → Q' .ret s') → F Q' (I i)) : LoopK F Q s :=
  LoopK.byF I m Pre i0 hp h0 fun i Q' h1 h2 h3 h4 _ => h i Q' h1 h2 h3 h4
/-- A box becomes immutable ahead of a loop. -/
theorem LoopK.frz {F : (AExit → St → Prop) → St → Prop} (id : Nat) {b : Box} (hb : find s.mem id = some b) (hv : b.var = true → AV.refsL b.els = []) (h : LoopK F Q (frzSt s id b)) : LoopK F Q s := by
  obtain ⟨ids, h⟩ := h
  exact ⟨id :: ids, by simp only [frzs, hb]; exact ⟨hv, h⟩⟩

@[simp] theorem nth_zero (a : AV) (l : List AV) : nth (a :: l) 0 = a := Eq.trans rfl rfl
@[simp] theorem nth_succ (a : AV) (l : List AV) (k : Nat) : nth (a :: l) (k + 1) = nth l k := Eq.trans rfl rfl
@[simp] theorem take_map_len {α β : Type} (f : α → β) (l : List α) : (l.map f).take l.length = l.map f := by
  rw [List.take_of_length_le]; simp
/-- An element of a list (a name that simp leaves alone). -/
def el {α : Type} [Inhabited α] (l : List α) (k : Nat) : α := l.getD k default
theorem nth_map {α : Type} [Inhabited α] (f : α → AV) (l : List α) (k : Nat) (hk : k < l.length) : nth (l.map f) k = f (el l k) := by
  simp [nth, el, List.getD_eq_getElem?_getD, hk]
theorem drop_cons {α : Type} [Inhabited α] (l : List α) (k : Nat) (hk : k < l.length) : l.drop k = el l k :: l.drop (k + 1) := by
  simp [el, List.getD_eq_getElem?_getD, hk]
theorem take_succ {α : Type} [Inhabited α] (l : List α) (k : Nat) (hk : k < l.length) : l.take (k + 1) = l.take k ++ [el l k] := by
  rw [List.take_add_one]; simp [el, List.getD_eq_getElem?_getD, hk]
theorem el_eq {α : Type} [Inhabited α] (l : List α) (k : Nat) (hk : k < l.length) : el l k = l[k] := by
  simp [el, List.getD_eq_getElem?_getD, hk]
@[simp] theorem upKeys_op {d : Option Nat} {op : Op} {ty : Nat} (h : isCall op = none) : upKeys T O ⟨d, op, ty, none⟩ s = (opE T O s.mem (d.getD 0) ty s.env op).up.map (·.1) := by
  simp only [upKeys, h]
@[simp] theorem upKeys_opg {d : Option Nat} {op : Op} {ty g : Nat} {w : Bool} (h : isCall op = none) : upKeys T O ⟨d, op, ty, some (g, w)⟩ s = if guardOf (get s.env g) w = some false then [] else (opE T O s.mem (d.getD 0) ty s.env op).up.map (·.1) := by
  simp only [upKeys, h]
@[simp] theorem upKeys_call {d : Option Nat} {f : Operand} {args : Array Operand} {ts : Array Nat} {ty : Nat} {gu : Option (Nat × Bool)} : upKeys T O ⟨d, .call ⟨.value f, args, ts⟩, ty, gu⟩ s = [] := by
  simp only [upKeys, isCall]
end
attribute [simp] slTy leE leEls leBox ownIds renA renL upN dnN dnO namesOK lendM backM LentB inKeys inKeysM akey entK makeMapE mupdE lookE mlenE ments convX convB bytesOf clearE copyE putEls frzSt frzA frzL frzB OwnK LentK LRetK LRet.av lid capE idsOf opRefs apartAll disj le leV leEnv leMem alive aliveEnv aliveMem opE ev cv get envOf st sg moveE puts St.app firm firms cmpE resL resV resA snap snapL snapOK snapOKL Op.operands Call.operands rng_eq elems appE placeOf ftype partsOK nrms kindOK buildE setEls elsOK sliceLitE nver intA sliceE fillA fieldE storeE setSub nilE partE elemE boxE allocE makeE convE fnE AV.solid indexE loadE sub cellsOf AV.width TK.agg binE inR boolE unE lenB lenE lenOK minE tupE fnE pickE guardOf builtinE tkind tknown tsize tzero telem esz nrm nrmL tgt find AV.refs AV.refsL flat flatL
end Go.Abs
end

section
/- The value layer, part 29: a contract may be used at arguments of which more is known. -/
namespace Go.Abs

mutual
def weak : AV → AV
  | .seq sz l _ => .seq sz (weakL l) false
  | .agg l => .agg (weakL l)
  | .tup l => .tup (weakL l)
  | a => a
def weakL : List AV → List AV
  | [] => []
  | a :: l => weak a :: weakL l
end

theorem weakL_length : ∀ l : List AV, (weakL l).length = l.length
  | [] => rfl
  | a :: l => by simp [weakL, weakL_length l]
theorem weakL_get : ∀ {l : List AV} {i : Nat}, i < l.length → (weakL l).getD i .junk = weak (l.getD i .junk)
  | a :: l, 0, _ => by simp [weakL]
  | a :: l, i + 1, h => by simpa [weakL] using weakL_get (l := l) (i := i) (by simpa using h)
theorem weak_width (a : AV) : (weak a).width = a.width := by
  cases a <;> simp [weak, AV.width, weakL_length]
theorem weak_elemVal (a : AV) (sz : Nat) (c : Array Value) (o : Nat) : elemVal (weak a) sz c o = elemVal a sz c o := by
  cases a <;> simp [weak, elemVal]

theorem Rep.weak {w : World} {Y : Nat → Prop} : ∀ {μ : Mu} {a : AV} {v : Value}, Rep w Y μ a v → Rep w Y μ (Abs.weak a) v := by
  intro μ a v h
  induction h with
  | raw h => simp only [Abs.weak]; exact .raw h
  | agg hs h1 h ih =>
    simp only [Abs.weak]
    exact .agg (by rw [weakL_length]; exact hs) (fun i hi => h1 i (by rwa [weakL_length] at hi)) fun i hi => by
      rw [weakL_length] at hi
      rw [weakL_get hi]; exact ih i hi
  | tup hs h ih =>
    simp only [Abs.weak]
    exact .tup (by rw [weakL_length]; exact hs) fun i hi => by
      rw [weakL_length] at hi
      rw [weakL_get hi]; exact ih i hi
  | nil => simp only [Abs.weak, weakL]; exact .nil
  | seq hY hb hc hf hbig hfit hw h1 h ih =>
    simp only [Abs.weak]
    rename_i l _ _ _ _ _ _ _
    rw [← weakL_length l]
    refine Rep.seq (full := false) hY hb (by rw [weakL_length]; exact hc) (fun h => by cases h) (by rw [weakL_length]; exact hbig) (by rw [weakL_length]; exact hfit) (fun i hi => ?_) (fun j hj1 hj2 => h1 j hj1 (by rw [weakL_length] at hj2; exact hj2)) fun i hi => ?_
    · rw [weakL_length] at hi
      rw [weakL_get hi, weak_width]; exact hw i hi
    · rw [weakL_length] at hi
      rw [weakL_get hi, weak_elemVal]; exact ih i hi
  | ipt hY hb hfit h1 h ih => simp only [Abs.weak]; exact .ipt hY hb hfit h1 h
  | pt hm hv hb hz => simp only [Abs.weak]; exact .pt hm hv hb hz
  | ptOld hm hv => simp only [Abs.weak]; exact .ptOld hm hv
  | slNil hm hv => simp only [Abs.weak]; exact .slNil hm hv
  | sl hm hv hb hc hfit hz => simp only [Abs.weak]; exact .sl hm hv hb hc hfit hz
  | mp hm hv hb hz => simp only [Abs.weak]; exact .mp hm hv hb hz
  | mpOld hm hv => simp only [Abs.weak]; exact .mpOld hm hv
  | map hY hb hs hbig h ih => simp only [Abs.weak]; exact .map hY hb hs hbig h
  | slOld hm hv => simp only [Abs.weak]; exact .slOld hm hv
  | fn hs ht h k ih ik => simp only [Abs.weak]; exact .fn hs ht h k
  | maybe h0 h ih => simp only [Abs.weak]; exact .maybe h0 h
  | junk => simp only [Abs.weak]; exact .junk

theorem CallP.weak {P : Program} {f : FuncId} {args : List AV} {r : AV} (h : CallP P f (weakL args) r) : CallP P f args r := by
  refine ⟨h.1, fun w X vs hX hlen hargs => ?_⟩
  refine h.2 w X vs hX (by rw [weakL_length]; exact hlen) fun i hi => ?_
  rw [weakL_length] at hi
  rw [weakL_get hi]
  exact (hargs i hi).weak
end Go.Abs
end

section
/- The value layer, part 34: functions whose boxes become immutable at the end. -/
namespace Go.Abs

section
variable {P : Program} {T : TT} (hT : TOK P T) {O : List Nat}

def FinF (T : TT) (rs : List ResultVar) (r : AV) : AExit → St → Prop
  | .exit _, _ => False
  | _, s => ∃ ids, frzs ids (fun s' => PreK (resL T s' rs ∧ snapOK s'.mem (resA (resV T s' rs))) (snap s'.mem (resA (resV T s' rs)) = r)) s

include hT in
/-- Own boxes may become immutable at the end. -/
theorem callPF_of_vc (hm : P.follows .mixedOrders = true) {f : FuncId} {fn : Func} {c : Code} {ac : ACode} {args : List AV} {r : AV} {G : Nat → List Nat} (hf : P.funcs[f]? = some fn) (hb : fn.body = some c) (hname : fn.name ≠ "runtime.NumGoroutine")
    (hs : strip fn.ntmps G c = some ac) (hn : args.length ≤ fn.ntmps) (h : vc P T O ac (FinF T fn.results.toList r) ⟨envOf 0 args, []⟩) : CallP P f args r := by
  refine ⟨⟨fn, hf, hname, by rw [hb]; simp⟩, fun w X vs hX hlen hargs => ?_⟩
  let B : Base := ⟨w, X, Noblk, fn.ntmps, Mu.none, []⟩
  have hrel : Rel B w { tmps := vs ++ Array.replicate (fn.ntmps - vs.size) undef, defers := [] } ⟨envOf 0 args, []⟩ := by
    refine ⟨Mu.none, rfl, by simp [B, hlen]; omega, ⟨fun _ _ => rfl, fun id b hfd => by simp [find] at hfd, fun _ _ _ _ _ _ _ h => (by cases h), ?_⟩, fun t => ?_, Ext.refl _ _, ?_, fun b hb => ⟨hX b hb, fun h => h⟩, fun _ _ _ h => by cases h⟩
    · rintro g ⟨_, _, _, h, _⟩; cases h
    · have hY : ∀ q, ¬ X q → q < w.heap.size → ¬ Yof B.X Mu.none q ∧ w.heap[q]? = w.heap[q]? := by
        intro q hq _
        refine ⟨fun hy => ?_, rfl⟩
        rcases hy with hx | ⟨_, _, _, h, _⟩
        · exact hq hx
        · cases h
      rw [get_envOf, if_pos (Nat.zero_le _), Nat.sub_zero]
      by_cases ht : t < args.length
      · have := hargs t ht
        have e : (vs ++ Array.replicate (fn.ntmps - vs.size) undef).getD t undef = vs.getD t undef := by
          simp only [Array.getD_eq_getD_getElem?]
          rw [Array.getElem?_append_left (by omega)]
        rw [e]
        exact this.mono hY (Mu.later.refl _)
      · have : args.getD t .junk = .junk := by simp [List.getD_eq_getElem?_getD, List.getElem?_eq_none (Nat.le_of_not_lt ht)]
        rw [this]
        exact .junk
    · rintro g ⟨_, _, _, h, _⟩; cases h
  refine calls_of_wp hf hb (wp_mono (vc_sound hT hm c ac hs _ _ h B w _ rfl hrel) ?_)
  have fin : ∀ a' w' s', Rel B w' a' s' → PreK (resL T s' fn.results.toList ∧ snapOK s'.mem (resA (resV T s' fn.results.toList))) (snap s'.mem (resA (resV T s' fn.results.toList)) = r) →
      a'.defers = [] ∧ ∃ v, (results fn a'.tmps).run P w' = .ok v w' ∧ ∃ u, Ending.returned v = .returned u ∧ Grows w w' ∧ Rep w' X Mu.none r u := by
    rintro a' w' s' ⟨μ, hr⟩ ⟨⟨hl, hsn⟩, heq⟩
    obtain ⟨vl, hrun, hvl, hrep⟩ := run_results hT hr fn.results.toList hl
    have hrun2 : (results fn a'.tmps).run P w' = .ok (if h : vl.length = 1 then vl[0]'(by omega) else .tuple vl.toArray) w' := by
      rw [results_eq, Sem.run_bind, Array.mapM_eq_mapM_toList, Sem.run_map, hrun]
      simp only [Result.andThen_ok, Sem.run_pure, List.size_toArray, List.getElem_toArray]
    refine ⟨hr.defers, _, hrun2, _, rfl, ⟨hr.ext.os, hr.ext.tape, hr.ext.output, hr.ext.size, fun b hb => hr.ext.old b hb (fun h => h)⟩, ?_⟩
    rw [← heq]
    refine rep_snap (Y := Yof B.X μ) ?_ (fun b hy hx => hy (.inl hx)) hr.inv hsn
    have hlen2 : (resV T s' fn.results.toList).length = vl.length := by rw [resV_length, hvl]
    by_cases h1 : vl.length = 1
    · rw [dif_pos h1]
      cases hq : resV T s' fn.results.toList with
      | nil => rw [hq] at hlen2; simp at hlen2; omega
      | cons x l =>
        cases l with
        | nil =>
          have := hrep 0 (by omega)
          rw [hq] at this
          simp only [resA]
          simpa [List.getD_eq_getElem?_getD, h1] using this
        | cons y l => rw [hq] at hlen2; simp at hlen2; omega
    · rw [dif_neg h1]
      have hra : resA (resV T s' fn.results.toList) = .tup (resV T s' fn.results.toList) := by
        cases hq : resV T s' fn.results.toList with
        | nil => rfl
        | cons x l =>
          cases l with
          | nil => rw [hq] at hlen2; simp at hlen2; omega
          | cons y l => rfl
      rw [hra]
      refine .tup (by simp [hlen2]) fun i hi => ?_
      have := hrep i (by rw [resV_length] at hi; exact hi)
      simpa [Array.getD_eq_getD_getElem?, List.getD_eq_getElem?_getD] using this
  intro e a' w' hp
  cases e with
  | normal =>
    obtain ⟨s1, hr1, ids, hz⟩ := hp
    obtain ⟨s', hq, hr⟩ := frzs_rel hz hr1
    exact fin a' w' s' hr hq
  | ret =>
    obtain ⟨s1, hr1, ids, hz⟩ := hp
    obtain ⟨s', hq, hr⟩ := frzs_rel hz hr1
    exact fin a' w' s' hr hq
  | exit id =>
    obtain ⟨s', hr, hq⟩ := hp
    exact hq.elim
  | _ => exact hp.elim

end

theorem callPF_of {P : Program} {T : TT} {O : List Nat} (hT : TOK P T) (hm : P.follows .mixedOrders = true) {f : FuncId} {fn : Func} {ac : ACode} {args : List AV} {r : AV} {N : Nat} {G : Nat → List Nat} {rs : List ResultVar}
    (hf : P.funcs[f]? = some fn) (hname : (fn.name == "runtime.NumGoroutine") = false) (hr : fn.results.toList = rs) (hN : fn.ntmps = N) (hs : fn.body.bind (strip N G) = some ac) (hn : args.length ≤ N)
    (h : vc P T O ac (FinF T rs r) ⟨envOf 0 args, []⟩) : CallP P f args r := by
  cases hb : fn.body with
  | none => rw [hb] at hs; cases hs
  | some c =>
    rw [hb] at hs
    subst hN hr
    exact callPF_of_vc hT hm hf hb (fun e => by rw [e] at hname; simp at hname) hs hn h
mutual
/-- A result of which no slice is told to be full. -/
def weakR : AV → AV
  | .ipt e o => .ipt (weak e) o
  | .tup l => .tup (weakRL l)
  | a => weak a
def weakRL : List AV → List AV
  | [] => []
  | a :: l => weakR a :: weakRL l
end
theorem weakRL_length : ∀ l : List AV, (weakRL l).length = l.length
  | [] => rfl
  | a :: l => by simp [weakRL, weakRL_length l]
theorem weakRL_get : ∀ {l : List AV} {i : Nat}, i < l.length → (weakRL l).getD i .junk = weakR (l.getD i .junk)
  | a :: l, 0, _ => by simp [weakRL]
  | a :: l, i + 1, h => by simpa [weakRL] using weakRL_get (l := l) (i := i) (by simpa using h)
theorem weak_elem (e : AV) (n : Nat) (c : Array Value) (o : Nat) : elemVal (weak e) n c o = elemVal e n c o := by
  cases e <;> rfl
theorem Rep.weakR {w : World} {Y : Nat → Prop} {μ : Mu} {a : AV} {v : Value} (h : Rep w Y μ a v) : Rep w Y μ (Abs.weakR a) v := by
  induction h with
  | ipt hY hb hfit h1 h ih =>
    simp only [Abs.weakR]
    refine .ipt hY hb (by rw [weak_width]; exact hfit) (fun j hj hj2 => h1 j hj (by rwa [weak_width] at hj2)) ?_
    rw [weak_elem, weak_width]
    exact h.weak
  | tup hs h ih =>
    simp only [Abs.weakR]
    refine .tup (by rw [weakRL_length]; exact hs) fun i hi => ?_
    rw [weakRL_length] at hi
    rw [weakRL_get hi]
    exact ih i hi
  | raw h => exact (Rep.raw h).weak
  | agg hs h1 h _ => exact (Rep.agg hs h1 h).weak
  | @nil μ sz full p => exact (Rep.nil (full := full)).weak
  | seq hY hb hc hf hbig hfit hw h1 h _ => exact (Rep.seq hY hb hc hf hbig hfit hw h1 h).weak
  | pt hm hv hb hz => exact (Rep.pt hm hv hb hz).weak
  | ptOld hm hv => exact (Rep.ptOld hm hv).weak
  | slNil hm hv => exact (Rep.slNil hm hv).weak
  | sl hm hv hb hc hfit hz => exact (Rep.sl hm hv hb hc hfit hz).weak
  | slOld hm hv => exact (Rep.slOld hm hv).weak
  | fn hs ht h k _ _ => exact (Rep.fn hs ht h k).weak
  | mp hm hv hb hz => exact (Rep.mp hm hv hb hz).weak
  | mpOld hm hv => exact (Rep.mpOld hm hv).weak
  | map hY hb hs hbig h _ => exact (Rep.map hY hb hs hbig h).weak
  | maybe h0 h _ => exact (Rep.maybe h0 h).weak
  | junk => exact Rep.junk.weak
theorem CallP.weakR {P : Program} {f : FuncId} {args : List AV} {r : AV} (h : CallP P f args r) : CallP P f args (Abs.weakR r) :=
  ⟨h.1, fun w X vs hX hlen hargs => (h.2 w X vs hX hlen hargs).mono fun _ _ ⟨v, he, hg, hr⟩ => ⟨v, he, hg, hr.weakR⟩⟩
theorem weakL_map {α : Type} {f : α → AV} (h : ∀ x, weak (f x) = f x) : ∀ l : List α, weakL (l.map f) = l.map f
  | [] => rfl
  | a :: l => by simp [weakL, h, weakL_map h l]
@[simp] theorem isCall_makeMap (t : Nat) (r : Option Operand) : isCall (.makeMap t r) = none := Eq.trans rfl rfl
@[simp] theorem isNilCmp_makeMap (t : Nat) (r : Option Operand) : isNilCmp (.makeMap t r) = none := Eq.trans rfl rfl
@[simp] theorem isBS_makeMap (t : Nat) (r : Option Operand) : isBS (.makeMap t r) = false := Eq.trans rfl rfl
@[simp] theorem isCall_mapUpdate (t : Nat) (x k v : Operand) : isCall (.mapUpdate t x k v) = none := Eq.trans rfl rfl
@[simp] theorem isNilCmp_mapUpdate (t : Nat) (x k v : Operand) : isNilCmp (.mapUpdate t x k v) = none := Eq.trans rfl rfl
@[simp] theorem isBS_mapUpdate (t : Nat) (x k v : Operand) : isBS (.mapUpdate t x k v) = false := Eq.trans rfl rfl
@[simp] theorem isCall_insert (t : Nat) (x k v : Operand) : isCall (.insert t x k v) = none := Eq.trans rfl rfl
@[simp] theorem isNilCmp_insert (t : Nat) (x k v : Operand) : isNilCmp (.insert t x k v) = none := Eq.trans rfl rfl
@[simp] theorem isBS_insert (t : Nat) (x k v : Operand) : isBS (.insert t x k v) = false := Eq.trans rfl rfl
@[simp] theorem isCall_lookup (t : Nat) (x k : Operand) (ok : Bool) : isCall (.lookup t x k ok) = none := Eq.trans rfl rfl
@[simp] theorem isNilCmp_lookup (t : Nat) (x k : Operand) (ok : Bool) : isNilCmp (.lookup t x k ok) = none := Eq.trans rfl rfl
@[simp] theorem isBS_lookup (t : Nat) (x k : Operand) (ok : Bool) : isBS (.lookup t x k ok) = false := Eq.trans rfl rfl
@[simp] theorem isMv_makeMap (t : Nat) (r : Option Operand) : isMv (.makeMap t r) = false := Eq.trans rfl rfl
@[simp] theorem isMv_mapUpdate (t : Nat) (x k v : Operand) : isMv (.mapUpdate t x k v) = false := Eq.trans rfl rfl
@[simp] theorem isMv_insert (t : Nat) (x k v : Operand) : isMv (.insert t x k v) = false := Eq.trans rfl rfl
@[simp] theorem isMv_lookup (t : Nat) (x k : Operand) (ok : Bool) : isMv (.lookup t x k ok) = false := Eq.trans rfl rfl
attribute [simp] mfind mput entW keysOK KK.fits
end Go.Abs
end
