/- Part 5 of the proof: the value layer and the contracts of the functions that the statement reaches; proved without conditions beyond those each theorem states. -/
import Derived.Test.YtphkchjhghdhiaaGreatV2
import Derived.Test.YtphkchjhghdhiaaGreatV3
import Derived.Test.YtphkchjhghdhiaaGreatV4
set_option linter.unusedSimpArgs false
set_option linter.unusedVariables false

section
/- The value layer, part 44: laws of the heap for moves of cells (appends, makes, copies, at rows of one cell an element). No program. -/
namespace Go.Abs

/-- Cells put into a row. -/
def putC (c : Array Value) (o : Nat) (l : List Value) : Array Value := (c.toList.take o ++ l ++ c.toList.drop (o + l.length)).toArray
/-- Cells out of a row. -/
def rowC (c : Array Value) (o n : Nat) : List Value := (List.range n).map fun j => c.getD (o + j) undef
@[simp] theorem rowC_len (c : Array Value) (o n : Nat) : (rowC c o n).length = n := by simp [rowC]
theorem rowC_get {c : Array Value} {o n j : Nat} (h : j < n) : (rowC c o n).getD j undef = c.getD (o + j) undef := by
  simp [rowC, List.getD_eq_getElem?_getD, h]
theorem rowC_one {c : Array Value} {o n : Nat} (h1 : ∀ j, j < c.size → (c.getD j undef).oneCell' = true) (hf : o + n ≤ c.size) : ∀ u ∈ rowC c o n, u.oneCell' = true := by
  intro u hu
  simp only [rowC, List.mem_map, List.mem_range] at hu
  obtain ⟨j, hj, rfl⟩ := hu
  exact h1 _ (by omega)
theorem putC_size {c : Array Value} {o : Nat} {l : List Value} (h : o + l.length ≤ c.size) : (putC c o l).size = c.size := by
  simp [putC]; omega
theorem putC_get {c : Array Value} {o : Nat} {l : List Value} (h : o + l.length ≤ c.size) (j : Nat) :
    (putC c o l).getD j undef = if o ≤ j ∧ j < o + l.length then l.getD (j - o) undef else c.getD j undef := by
  unfold putC
  have e1 : (c.toList.take o).length = o := by simp; omega
  simp only [Array.getD_eq_getD_getElem?, List.getElem?_toArray, List.getD_eq_getElem?_getD, List.append_assoc]
  by_cases a1 : j < o
  · rw [if_neg (by omega), List.getElem?_append_left (by omega), List.getElem?_take, if_pos a1, Array.getElem?_toList]
  · rw [List.getElem?_append_right (by omega), e1]
    by_cases a2 : j < o + l.length
    · rw [if_pos ⟨by omega, a2⟩, List.getElem?_append_left (by omega)]
    · rw [if_neg (by omega), List.getElem?_append_right (by omega), List.getElem?_drop, Array.getElem?_toList]
      congr 2
      omega
theorem putC_one {c : Array Value} {o : Nat} {l : List Value} (h : o + l.length ≤ c.size) (h1 : ∀ j, j < c.size → (c.getD j undef).oneCell' = true) (h2 : ∀ u ∈ l, u.oneCell' = true) :
    ∀ j, j < (putC c o l).size → ((putC c o l).getD j undef).oneCell' = true := by
  intro j hj
  rw [putC_size h] at hj
  rw [putC_get h]
  by_cases hh : o ≤ j ∧ j < o + l.length
  · rw [if_pos hh]
    refine h2 _ ?_
    rw [List.getD_eq_getElem?_getD, List.getElem?_eq_getElem (by omega)]
    exact List.getElem_mem _
  · rw [if_neg hh]
    exact h1 j hj

section
variable {P : Program}
theorem run_first_at {w : World} {g o n m cap : Nat} {c : Array Value} {el : TypeId} {fr : Nat × Nat} (hg : w.heap[g]? = some (.cells c el fr)) (hf : o + n ≤ c.size) :
    (Builtin.firstCells 1 n (.slice (some ⟨g, o, none⟩) m cap)).run P w = .ok (rowC c o n).toArray w := by
  refine run_firstCells_some w 1 n ⟨g, o, none⟩ m cap (rowC c o n) (by simp) fun j v hj => ?_
  have hjn : j < n := by
    have := (List.getElem?_eq_some_iff.1 hj).1
    simpa using this
  have : c[o + j]? = some v := by
    simp only [rowC, List.getElem?_map, List.getElem?_range hjn, Option.map_some, Option.some.injEq] at hj
    rw [← hj, Array.getD_eq_getD_getElem?, Array.getElem?_eq_getElem (by omega)]
    rfl
  have e : (⟨g, o, none⟩ : Addr).add j = ⟨g, o + j, none⟩ := addr_add g o j
  rw [e]
  simpa [World.cell?, hg] using this
theorem run_copy_at {w : World} {t t' ty e : TypeId} {i : TypeInfo} (ht : P.underlying t = some (.slice e)) (hi : P.info? e = some i) (hs : i.size = 1) {g o dl dc h so sl sc : Nat} {c d : Array Value} {el el' : TypeId} {fr : Nat × Nat}
    (hg : w.heap[g]? = some (.cells c el (0, 0))) (hh : w.heap[h]? = some (.cells d el' fr)) (hf : o + dl ≤ c.size) (hf' : so + sl ≤ d.size) (h1 : ∀ j, j < d.size → (d.getD j undef).oneCell' = true) :
    (Builtin.copy_ #[t, t'] ty #[.slice (some ⟨g, o, none⟩) dl dc, .slice (some ⟨h, so, none⟩) sl sc]).run P w = .ok (goInt (min sl dl : Nat)) (w.setRow g (putC c o (rowC d so (min sl dl)))) := by
  have hm : min sl dl ≤ sl := Nat.min_le_left _ _
  have hm' : min sl dl ≤ dl := Nat.min_le_right _ _
  refine run_copy_out ht hi _ _ _ _ _ _ (cs := (rowC d so (min sl dl)).toArray) ?_ (fun q hq => ?_) (fun hq => by cases hq) ty
  · rw [hs]
    exact run_first_at hh (by omega)
  · cases hq
    have hrun := run_storeCells_at P g o el (rowC d so (min sl dl)) 0 c w hg (by simp; omega) (rowC_one h1 (by omega))
    simp only [Nat.add_zero] at hrun
    exact hrun
theorem run_append_at {w : World} {t t' ty e e' : TypeId} {i : TypeInfo} (ht : P.underlying t = some (.slice e)) (ht' : P.underlying t' = some (.slice e')) (hi : P.info? e = some i) (hs : i.size = 1) {g o n cap h so m sc : Nat} {c d : Array Value} {el el' : TypeId} {fr : Nat × Nat}
    (hg : w.heap[g]? = some (.cells c el (0, 0))) (hh : w.heap[h]? = some (.cells d el' fr)) (hroom : n + m ≤ cap) (hf : o + cap ≤ c.size) (hf' : so + m ≤ d.size) (h1 : ∀ j, j < d.size → (d.getD j undef).oneCell' = true) :
    (Builtin.append_ #[t, t'] ty #[.slice (some ⟨g, o, none⟩) n cap, .slice (some ⟨h, so, none⟩) m sc]).run P w = .ok (.slice (some ⟨g, o, none⟩) (n + m) cap) (w.setRow g (putC c (o + n) (rowC d so m))) := by
  have := run_append_in (ty := ty) ht ht' hi (g := g) (o := o) (n := n) (m := m) (cap := cap) (q := some ⟨h, so, none⟩) (qc := sc) (cs := (rowC d so m).toArray) (c := c) (el := el) (by rw [hs]; exact run_first_at hh hf') hroom hg
    (by simp [hs]; omega) (by simpa using rowC_one h1 hf')
  rw [this]
  simp [putC, hs]
theorem run_append_new {w : World} {t t' ty e e' : TypeId} {i : TypeInfo} {z : Value} (ht : P.underlying t = some (.slice e)) (ht' : P.underlying t' = some (.slice e')) (hi : P.info? e = some i) (hs : i.size = 1) (hz : i.zero = some z) (hb : i.bytes ≤ 4096) {g o n cap h so m sc : Nat} {c d : Array Value} {el el' : TypeId} {fr fr' : Nat × Nat}
    (hg : w.heap[g]? = some (.cells c el fr')) (hh : w.heap[h]? = some (.cells d el' fr)) (hroom : cap < n + m) (hf : o + n ≤ c.size) (hf' : so + m ≤ d.size) (hbig : n + m ≤ 2 ^ 30) :
    (Builtin.append_ #[t, t'] ty #[.slice (some ⟨g, o, none⟩) n cap, .slice (some ⟨h, so, none⟩) m sc]).run P w =
      .ok (.slice (some ⟨w.heap.size, 0, none⟩) (n + m) (grownCap w (n + m) cap e)) (w.drew.alloc (.cells ((rowC c o n).toArray ++ (rowC d so m).toArray ++ Builtin.zeroCells z.cells (grownCap w (n + m) cap e - (n + m))) e)) := by
  refine run_append_out ht ht' hi hz (by rw [hs]; exact run_first_at (w := w.drew) hh hf') (by rw [hs]; exact run_first_at (w := w.drew) hg hf) hroom hbig hb
/-- An append of so many zero values, where there is no room for them. -/
theorem run_append_made {w : World} {t t' ty e : TypeId} {k : IntKind} {i : TypeInfo} (ht : P.underlying t = some (.slice e)) (ht' : P.underlying t' = some (.int k)) (hi : P.info? e = some i) {z : Value} (hz : i.zero = some z) (hs : i.size = 1) (hb : i.bytes ≤ 4096)
    {g o n m cap : Nat} {c : Array Value} {el : TypeId} {fr : Nat × Nat} (hg : w.heap[g]? = some (.cells c el fr)) (hroom : cap < n + m) (hf : o + n ≤ c.size) (h0 : 0 < m) (hbig : n + m ≤ 1000000) :
    (Builtin.append_ #[t, t'] ty #[.slice (some ⟨g, o, none⟩) n cap, .int .i64 m]).run P w =
      .ok (.slice (some ⟨w.heap.size, 0, none⟩) (n + m) (grownCap w (n + m) cap e)) (w.drew.alloc (.cells ((rowC c o n).toArray ++ Builtin.zeroCells z.cells m ++ Builtin.zeroCells z.cells (grownCap w (n + m) cap e - (n + m))) e)) := by
  have hwrap : IntKind.i64.wrap (m : Int) = m := wrap_in (by simp only [inR]; omega)
  have hle : (n + m) * i.bytes ≤ 140737488355328 := by
    have := Nat.mul_le_mul hbig hb
    omega
  have hfit := growslice_fits (old := cap) hroom hle
  have h48' : ¬ (281474976710656 < Builtin.nextslicecap (n + m) cap * i.bytes) := by omega
  have hmle : m * i.bytes ≤ 140737488355328 := Nat.le_trans (Nat.mul_le_mul_right _ (by omega)) hle
  have h48 : ¬ (281474976710656 < (m : Int) * (i.bytes : Int)) := by
    have h2 : ((m * i.bytes : Nat) : Int) ≤ ((140737488355328 : Nat) : Int) := Int.ofNat_le.2 hmle
    rw [Int.natCast_mul] at h2
    omega
  have hneg : ¬ ((m : Int) < 0) := by omega
  have h63' : ¬ (9223372036854775807 < ((n : Int) + (m : Int))) := by omega
  have hn0 : m ≠ 0 := by omega
  have hroom' : ¬ (n + m ≤ cap) := by omega
  have hold : (Builtin.firstCells 1 n (.slice (some ⟨g, o, none⟩) n cap)).run P w.drew = .ok (rowC c o n).toArray w.drew := run_first_at (w := w.drew) hg hf
  simp [Builtin.append_, run_underlying ht, run_underlying ht', sizeOf, typeInfo, zeroValue, asInt, asIntOf, hi, hz, hs, hwrap, hneg, h48, h63', h48', hn0, hroom', Question.forced, hold, newRow, grownCap]
end
/-- In place, at the end. -/
theorem moved_end {c d : Array Value} {base hb k cap : Nat} (hf : base + cap = c.size) (hr : k + 2 ≤ cap) {i : Nat} (hi : i < k + 1 + 1) :
    (putC c (base + k) (rowC d hb 2)).getD (base + i) undef = movedC c d base hb k i := by
  rw [putC_get (by simp; omega)]
  unfold movedC
  simp only [rowC_len]
  by_cases a1 : i < k
  · rw [if_neg (by omega), if_pos a1]
  · rw [if_pos (by omega), if_neg a1, if_pos (by omega), rowC_get (by omega)]
    congr 1
    omega
/-- In a new block, at the end. -/
theorem moved_new {c d Z : Array Value} {base hb k : Nat} {i : Nat} (hi : i < k + 1 + 1) :
    ((rowC c base k).toArray ++ (rowC d hb 2).toArray ++ Z).getD (0 + i) undef = movedC c d base hb k i := by
  unfold movedC
  rw [Array.getD_eq_getD_getElem?, Nat.zero_add, Array.getElem?_append_left (by simp; omega)]
  by_cases a1 : i < k
  · rw [if_pos a1, Array.getElem?_append_left (by simp; omega), List.getElem?_toArray, ← List.getD_eq_getElem?_getD, rowC_get a1]
  · rw [if_neg a1, if_pos (by omega), Array.getElem?_append_right (by simp; omega), List.getElem?_toArray, ← List.getD_eq_getElem?_getD, rowC_get (by simp; omega)]
    simp
/-- In place, in the middle: what is behind moves first. -/
theorem moved_mid {c d : Array Value} {base hb k n cap : Nat} (hf : base + cap = c.size) (hk : k + 1 < n) (hr : n + 1 ≤ cap) {i : Nat} (hi : i < n + 1) :
    (putC (putC c (base + (k + 2)) (rowC c (base + (k + 1)) (n - (k + 1)))) (base + k) (rowC d hb 2)).getD (base + i) undef = movedC c d base hb k i := by
  have f1 : base + (k + 2) + (rowC c (base + (k + 1)) (n - (k + 1))).length ≤ c.size := by simp; omega
  rw [putC_get (by rw [putC_size f1]; simp; omega)]
  unfold movedC
  simp only [rowC_len]
  by_cases a1 : i < k
  · rw [if_neg (by omega), if_pos a1, putC_get f1, if_neg (by omega)]
  · rw [if_neg a1]
    by_cases a2 : i < k + 2
    · rw [if_pos (by omega), if_pos a2, rowC_get (by omega)]
      congr 1
      omega
    · rw [if_neg (by omega), if_neg a2, putC_get f1, if_pos (by simp; omega), rowC_get (by omega)]
      congr 1
      omega
/-- In a new block, in the middle: what is put in goes first. -/
theorem moved_big {c d C : Array Value} {base hb k n : Nat} (hk : k + 1 < n) (hC : n + 1 ≤ C.size) (hC0 : ∀ i, i < k → C.getD i undef = c.getD (base + i) undef) {i : Nat} (hi : i < n + 1) :
    (putC (putC C (0 + k) (rowC d hb 2)) (0 + (k + 2)) (rowC c (base + (k + 1)) (n - (k + 1)))).getD (0 + i) undef = movedC c d base hb k i := by
  have f1 : 0 + k + (rowC d hb 2).length ≤ C.size := by simp; omega
  rw [putC_get (by rw [putC_size f1]; simp; omega)]
  unfold movedC
  simp only [rowC_len]
  by_cases a1 : i < k
  · rw [if_neg (by omega), if_pos a1, putC_get f1, if_neg (by simp; omega), Nat.zero_add, hC0 i a1]
  · rw [if_neg a1]
    by_cases a2 : i < k + 2
    · rw [if_neg (by omega), if_pos a2, putC_get f1, if_pos (by simp; omega), rowC_get (by omega)]
      congr 1
      omega
    · rw [if_pos (by omega), if_neg a2, rowC_get (by omega)]
      congr 1
      omega
end Go.Abs
end

section
/- The value layer, part 29: a contract may be used at arguments of which more is known. -/
namespace Go.Abs

mutual
def weak : AV → AV
  | .seq sz l _ => .seq sz (weakL l) false
  | .agg l => .agg (weakL l)
  | .tup l => .tup (weakL l)
  | a => a
def weakL : List AV → List AV
  | [] => []
  | a :: l => weak a :: weakL l
end

theorem weakL_length : ∀ l : List AV, (weakL l).length = l.length
  | [] => rfl
  | a :: l => by simp [weakL, weakL_length l]
theorem weakL_get : ∀ {l : List AV} {i : Nat}, i < l.length → (weakL l).getD i .junk = weak (l.getD i .junk)
  | a :: l, 0, _ => by simp [weakL]
  | a :: l, i + 1, h => by simpa [weakL] using weakL_get (l := l) (i := i) (by simpa using h)
theorem weak_width (a : AV) : (weak a).width = a.width := by
  cases a <;> simp [weak, AV.width, weakL_length]
theorem weak_elemVal (a : AV) (sz : Nat) (c : Array Value) (o : Nat) : elemVal (weak a) sz c o = elemVal a sz c o := by
  cases a <;> simp [weak, elemVal]

theorem Rep.weak {w : World} {Y : Nat → Prop} : ∀ {μ : Mu} {a : AV} {v : Value}, Rep w Y μ a v → Rep w Y μ (Abs.weak a) v := by
  intro μ a v h
  induction h with
  | raw h => simp only [Abs.weak]; exact .raw h
  | agg hs h1 h ih =>
    simp only [Abs.weak]
    exact .agg (by rw [weakL_length]; exact hs) (fun i hi => h1 i (by rwa [weakL_length] at hi)) fun i hi => by
      rw [weakL_length] at hi
      rw [weakL_get hi]; exact ih i hi
  | tup hs h ih =>
    simp only [Abs.weak]
    exact .tup (by rw [weakL_length]; exact hs) fun i hi => by
      rw [weakL_length] at hi
      rw [weakL_get hi]; exact ih i hi
  | nil => simp only [Abs.weak, weakL]; exact .nil
  | seq hY hb hc hf hbig hfit hw h1 h ih =>
    simp only [Abs.weak]
    rename_i l _ _ _ _ _ _ _
    rw [← weakL_length l]
    refine Rep.seq (full := false) hY hb (by rw [weakL_length]; exact hc) (fun h => by cases h) (by rw [weakL_length]; exact hbig) (by rw [weakL_length]; exact hfit) (fun i hi => ?_) (fun j hj1 hj2 => h1 j hj1 (by rw [weakL_length] at hj2; exact hj2)) fun i hi => ?_
    · rw [weakL_length] at hi
      rw [weakL_get hi, weak_width]; exact hw i hi
    · rw [weakL_length] at hi
      rw [weakL_get hi, weak_elemVal]; exact ih i hi
  | ipt hY hb hfit h1 h ih => simp only [Abs.weak]; exact .ipt hY hb hfit h1 h
  | pt hm hv hb hz => simp only [Abs.weak]; exact .pt hm hv hb hz
  | ptOld hm hv => simp only [Abs.weak]; exact .ptOld hm hv
  | slNil hm hv hnf => simp only [Abs.weak]; exact .slNil hm hv hnf
  | sl hm hv hb hc hfit hz => simp only [Abs.weak]; exact .sl hm hv hb hc hfit hz
  | mp hm hv hb hz => simp only [Abs.weak]; exact .mp hm hv hb hz
  | mpOld hm hv => simp only [Abs.weak]; exact .mpOld hm hv
  | map hY hb hs hbig h ih => simp only [Abs.weak]; exact .map hY hb hs hbig h
  | slOld hm hv => simp only [Abs.weak]; exact .slOld hm hv
  | fn hs ht h k ih ik => simp only [Abs.weak]; exact .fn hs ht h k
  | maybe h0 h ih => simp only [Abs.weak]; exact .maybe h0 h
  | junk => simp only [Abs.weak]; exact .junk

theorem CallP.weak {P : Program} {f : FuncId} {args : List AV} {r : AV} (h : CallP P f (weakL args) r) : CallP P f args r := by
  refine ⟨h.1, fun w X vs hX hlen hargs => ?_⟩
  refine h.2 w X vs hX (by rw [weakL_length]; exact hlen) fun i hi => ?_
  rw [weakL_length] at hi
  rw [weakL_get hi]
  exact (hargs i hi).weak
end Go.Abs
end

section
/- The value layer, part 34: functions whose boxes become immutable at the end. -/
namespace Go.Abs

section
variable {P : Program} {T : TT} (hT : TOK P T) {O : List Nat}

def FinF (T : TT) (rs : List ResultVar) (r : AV) : AExit → St → Prop
  | .exit _, _ => False
  | _, s => ∃ ids, frzs ids (fun s' => PreK (resL T s' rs ∧ snapOK s'.mem (resA (resV T s' rs))) (snap s'.mem (resA (resV T s' rs)) = r)) s

include hT in
/-- Own boxes may become immutable at the end. -/
theorem callPF_of_vc (hm : P.follows .mixedOrders = true) {f : FuncId} {fn : Func} {c : Code} {ac : ACode} {args : List AV} {r : AV} {G : Nat → List Nat} (hf : P.funcs[f]? = some fn) (hb : fn.body = some c) (hname : fn.name ≠ "runtime.NumGoroutine")
    (hs : strip fn.ntmps G c = some ac) (hn : args.length ≤ fn.ntmps) (h : vc P T O ac (FinF T fn.results.toList r) ⟨envOf 0 args, []⟩) : CallP P f args r := by
  refine ⟨⟨fn, hf, hname, by rw [hb]; simp⟩, fun w X vs hX hlen hargs => ?_⟩
  let B : Base := ⟨w, X, Noblk, fn.ntmps, Mu.none, []⟩
  have hrel : Rel B w { tmps := vs ++ Array.replicate (fn.ntmps - vs.size) undef, defers := [] } ⟨envOf 0 args, []⟩ := by
    refine ⟨Mu.none, rfl, by simp [B, hlen]; omega, ⟨fun _ _ => rfl, fun id b hfd => by simp [find] at hfd, fun _ _ _ _ _ _ _ h => (by cases h), ?_⟩, fun t => ?_, Ext.refl _ _, ?_, fun b hb => ⟨hX b hb, fun h => h⟩, fun _ _ _ h => by cases h⟩
    · rintro g ⟨_, _, _, h, _⟩; cases h
    · have hY : ∀ q, ¬ X q → q < w.heap.size → ¬ Yof B.X Mu.none q ∧ w.heap[q]? = w.heap[q]? := by
        intro q hq _
        refine ⟨fun hy => ?_, rfl⟩
        rcases hy with hx | ⟨_, _, _, h, _⟩
        · exact hq hx
        · cases h
      rw [get_envOf, if_pos (Nat.zero_le _), Nat.sub_zero]
      by_cases ht : t < args.length
      · have := hargs t ht
        have e : (vs ++ Array.replicate (fn.ntmps - vs.size) undef).getD t undef = vs.getD t undef := by
          simp only [Array.getD_eq_getD_getElem?]
          rw [Array.getElem?_append_left (by omega)]
        rw [e]
        exact this.mono hY (Mu.later.refl _)
      · have : args.getD t .junk = .junk := by simp [List.getD_eq_getElem?_getD, List.getElem?_eq_none (Nat.le_of_not_lt ht)]
        rw [this]
        exact .junk
    · rintro g ⟨_, _, _, h, _⟩; cases h
  refine calls_of_wp hf hb (wp_mono (vc_sound hT hm c ac hs _ _ h B w _ rfl hrel) ?_)
  have fin : ∀ a' w' s', Rel B w' a' s' → PreK (resL T s' fn.results.toList ∧ snapOK s'.mem (resA (resV T s' fn.results.toList))) (snap s'.mem (resA (resV T s' fn.results.toList)) = r) →
      a'.defers = [] ∧ ∃ v, (results fn a'.tmps).run P w' = .ok v w' ∧ ∃ u, Ending.returned v = .returned u ∧ Grows w w' ∧ Rep w' X Mu.none r u := by
    rintro a' w' s' ⟨μ, hr⟩ ⟨⟨hl, hsn⟩, heq⟩
    obtain ⟨vl, hrun, hvl, hrep⟩ := run_results hT hr fn.results.toList hl
    have hrun2 : (results fn a'.tmps).run P w' = .ok (if h : vl.length = 1 then vl[0]'(by omega) else .tuple vl.toArray) w' := by
      rw [results_eq, Sem.run_bind, Array.mapM_eq_mapM_toList, Sem.run_map, hrun]
      simp only [Result.andThen_ok, Sem.run_pure, List.size_toArray, List.getElem_toArray]
    refine ⟨hr.defers, _, hrun2, _, rfl, ⟨hr.ext.os, hr.ext.tape, hr.ext.output, hr.ext.size, fun b hb => hr.ext.old b hb (fun h => h)⟩, ?_⟩
    rw [← heq]
    refine rep_snap (Y := Yof B.X μ) ?_ (fun b hy hx => hy (.inl hx)) hr.inv hsn
    have hlen2 : (resV T s' fn.results.toList).length = vl.length := by rw [resV_length, hvl]
    by_cases h1 : vl.length = 1
    · rw [dif_pos h1]
      cases hq : resV T s' fn.results.toList with
      | nil => rw [hq] at hlen2; simp at hlen2; omega
      | cons x l =>
        cases l with
        | nil =>
          have := hrep 0 (by omega)
          rw [hq] at this
          simp only [resA]
          simpa [List.getD_eq_getElem?_getD, h1] using this
        | cons y l => rw [hq] at hlen2; simp at hlen2; omega
    · rw [dif_neg h1]
      have hra : resA (resV T s' fn.results.toList) = .tup (resV T s' fn.results.toList) := by
        cases hq : resV T s' fn.results.toList with
        | nil => rfl
        | cons x l =>
          cases l with
          | nil => rw [hq] at hlen2; simp at hlen2; omega
          | cons y l => rfl
      rw [hra]
      refine .tup (by simp [hlen2]) fun i hi => ?_
      have := hrep i (by rw [resV_length] at hi; exact hi)
      simpa [Array.getD_eq_getD_getElem?, List.getD_eq_getElem?_getD] using this
  intro e a' w' hp
  cases e with
  | normal =>
    obtain ⟨s1, hr1, ids, hz⟩ := hp
    obtain ⟨s', hq, hr⟩ := frzs_rel hz hr1
    exact fin a' w' s' hr hq
  | ret =>
    obtain ⟨s1, hr1, ids, hz⟩ := hp
    obtain ⟨s', hq, hr⟩ := frzs_rel hz hr1
    exact fin a' w' s' hr hq
  | exit id =>
    obtain ⟨s', hr, hq⟩ := hp
    exact hq.elim
  | _ => exact hp.elim

end

theorem callPF_of {P : Program} {T : TT} {O : List Nat} (hT : TOK P T) (hm : P.follows .mixedOrders = true) {f : FuncId} {fn : Func} {ac : ACode} {args : List AV} {r : AV} {N : Nat} {G : Nat → List Nat} {rs : List ResultVar}
    (hf : P.funcs[f]? = some fn) (hname : (fn.name == "runtime.NumGoroutine") = false) (hr : fn.results.toList = rs) (hN : fn.ntmps = N) (hs : fn.body.bind (strip N G) = some ac) (hn : args.length ≤ N)
    (h : vc P T O ac (FinF T rs r) ⟨envOf 0 args, []⟩) : CallP P f args r := by
  cases hb : fn.body with
  | none => rw [hb] at hs; cases hs
  | some c =>
    rw [hb] at hs
    subst hN hr
    exact callPF_of_vc hT hm hf hb (fun e => by rw [e] at hname; simp at hname) hs hn h
mutual
/-- A result of which no slice is told to be full. -/
def weakR : AV → AV
  | .ipt e o => .ipt (weak e) o
  | .tup l => .tup (weakRL l)
  | a => weak a
def weakRL : List AV → List AV
  | [] => []
  | a :: l => weakR a :: weakRL l
end
theorem weakRL_length : ∀ l : List AV, (weakRL l).length = l.length
  | [] => rfl
  | a :: l => by simp [weakRL, weakRL_length l]
theorem weakRL_get : ∀ {l : List AV} {i : Nat}, i < l.length → (weakRL l).getD i .junk = weakR (l.getD i .junk)
  | a :: l, 0, _ => by simp [weakRL]
  | a :: l, i + 1, h => by simpa [weakRL] using weakRL_get (l := l) (i := i) (by simpa using h)
theorem weak_elem (e : AV) (n : Nat) (c : Array Value) (o : Nat) : elemVal (weak e) n c o = elemVal e n c o := by
  cases e <;> rfl
theorem Rep.weakR {w : World} {Y : Nat → Prop} {μ : Mu} {a : AV} {v : Value} (h : Rep w Y μ a v) : Rep w Y μ (Abs.weakR a) v := by
  induction h with
  | ipt hY hb hfit h1 h ih =>
    simp only [Abs.weakR]
    refine .ipt hY hb (by rw [weak_width]; exact hfit) (fun j hj hj2 => h1 j hj (by rwa [weak_width] at hj2)) ?_
    rw [weak_elem, weak_width]
    exact h.weak
  | tup hs h ih =>
    simp only [Abs.weakR]
    refine .tup (by rw [weakRL_length]; exact hs) fun i hi => ?_
    rw [weakRL_length] at hi
    rw [weakRL_get hi]
    exact ih i hi
  | raw h => exact (Rep.raw h).weak
  | agg hs h1 h _ => exact (Rep.agg hs h1 h).weak
  | @nil μ sz full p => exact (Rep.nil (full := full)).weak
  | seq hY hb hc hf hbig hfit hw h1 h _ => exact (Rep.seq hY hb hc hf hbig hfit hw h1 h).weak
  | pt hm hv hb hz => exact (Rep.pt hm hv hb hz).weak
  | ptOld hm hv => exact (Rep.ptOld hm hv).weak
  | slNil hm hv hnf => exact (Rep.slNil hm hv hnf).weak
  | sl hm hv hb hc hfit hz => exact (Rep.sl hm hv hb hc hfit hz).weak
  | slOld hm hv => exact (Rep.slOld hm hv).weak
  | fn hs ht h k _ _ => exact (Rep.fn hs ht h k).weak
  | mp hm hv hb hz => exact (Rep.mp hm hv hb hz).weak
  | mpOld hm hv => exact (Rep.mpOld hm hv).weak
  | map hY hb hs hbig h _ => exact (Rep.map hY hb hs hbig h).weak
  | maybe h0 h _ => exact (Rep.maybe h0 h).weak
  | junk => exact Rep.junk.weak
theorem CallP.weakR {P : Program} {f : FuncId} {args : List AV} {r : AV} (h : CallP P f args r) : CallP P f args (Abs.weakR r) :=
  ⟨h.1, fun w X vs hX hlen hargs => (h.2 w X vs hX hlen hargs).mono fun _ _ ⟨v, he, hg, hr⟩ => ⟨v, he, hg, hr.weakR⟩⟩
@[simp] theorem isCall_makeMap (t : Nat) (r : Option Operand) : isCall (.makeMap t r) = none := Eq.trans rfl rfl
@[simp] theorem isNilCmp_makeMap (t : Nat) (r : Option Operand) : isNilCmp (.makeMap t r) = none := Eq.trans rfl rfl
@[simp] theorem isBS_makeMap (t : Nat) (r : Option Operand) : isBS (.makeMap t r) = false := Eq.trans rfl rfl
@[simp] theorem isCall_mapUpdate (t : Nat) (x k v : Operand) : isCall (.mapUpdate t x k v) = none := Eq.trans rfl rfl
@[simp] theorem isNilCmp_mapUpdate (t : Nat) (x k v : Operand) : isNilCmp (.mapUpdate t x k v) = none := Eq.trans rfl rfl
@[simp] theorem isBS_mapUpdate (t : Nat) (x k v : Operand) : isBS (.mapUpdate t x k v) = false := Eq.trans rfl rfl
@[simp] theorem isCall_insert (t : Nat) (x k v : Operand) : isCall (.insert t x k v) = none := Eq.trans rfl rfl
@[simp] theorem isNilCmp_insert (t : Nat) (x k v : Operand) : isNilCmp (.insert t x k v) = none := Eq.trans rfl rfl
@[simp] theorem isBS_insert (t : Nat) (x k v : Operand) : isBS (.insert t x k v) = false := Eq.trans rfl rfl
@[simp] theorem isCall_lookup (t : Nat) (x k : Operand) (ok : Bool) : isCall (.lookup t x k ok) = none := Eq.trans rfl rfl
@[simp] theorem isNilCmp_lookup (t : Nat) (x k : Operand) (ok : Bool) : isNilCmp (.lookup t x k ok) = none := Eq.trans rfl rfl
@[simp] theorem isBS_lookup (t : Nat) (x k : Operand) (ok : Bool) : isBS (.lookup t x k ok) = false := Eq.trans rfl rfl
@[simp] theorem isMv_makeMap (t : Nat) (r : Option Operand) : isMv (.makeMap t r) = false := Eq.trans rfl rfl
@[simp] theorem isMv_mapUpdate (t : Nat) (x k v : Operand) : isMv (.mapUpdate t x k v) = false := Eq.trans rfl rfl
@[simp] theorem isMv_insert (t : Nat) (x k v : Operand) : isMv (.insert t x k v) = false := Eq.trans rfl rfl
@[simp] theorem isMv_lookup (t : Nat) (x k : Operand) (ok : Bool) : isMv (.lookup t x k ok) = false := Eq.trans rfl rfl
attribute [simp] mfind mput entW keysOK KK.fits
end Go.Abs
end

section
/- The value layer, part 39 (behind 34): the end of a function whose result owns boxes. -/
namespace Go.Abs

/-- What is asked of the boxes at the end. -/
def matM (m m0 : List (Nat × Option Box)) : List (Nat × Option Box) → Prop
  | [] => True
  | (c, x) :: l => (match find m c, x with
    | some b', some b => b.ver = b'.ver ∧ 0 < b.ver ∧ b.sz = b'.sz ∧ b.var = b'.var ∧ b.els = (if b'.var then renL (shf 0 m0) b'.els else b'.els)
    | _, _ => False) ∧ matM m m0 l
theorem matM_find {m m0 : List (Nat × Option Box)} : ∀ {l : List (Nat × Option Box)}, matM m m0 l → ∀ {i : Nat} {b : Box}, find l i = some b →
    ∃ b', find m i = some b' ∧ b.ver = b'.ver ∧ 0 < b.ver ∧ b.sz = b'.sz ∧ b.var = b'.var ∧ b.els = (if b'.var then renL (shf 0 m0) b'.els else b'.els)
  | (c, x) :: l, h, i, b, hf => by
    obtain ⟨h1, h2⟩ := h
    simp only [find] at hf
    split at hf
    · rename_i e
      subst e
      subst hf
      split at h1
      · rename_i b' b0 hb hx
        cases hx
        exact ⟨b', hb, h1⟩
      · exact h1.elim
    · exact matM_find h2 hf

section
variable {P : Program} {T : TT} {O : List Nat} (hT : TOK P T)
def FinM (T : TT) (rs : List ResultVar) (r : AV) (m' : List (Nat × Option Box)) : AExit → St → Prop
  | .exit _, _ => False
  | _, s => ∃ ids, frzs ids (fun s0 => ∃ nm, rens nm (fun s' => PreK (resL T s' rs ∧ matM s'.mem m' m') (renA (shf 0 m') (resA (resV T s' rs)) = r)) s0) s

include hT in
/-- The result owns the boxes that are named. -/
theorem callM_of_vc (hm : P.follows .mixedOrders = true) {f : FuncId} {fn : Func} {ac : ACode} {args : List AV} {G : Nat → List Nat} {rs : List ResultVar} {N : Nat} {r : AV} {m' : List (Nat × Option Box)} (hf : P.funcs[f]? = some fn) (hname : (fn.name == "runtime.NumGoroutine") = false)
    (hr : fn.results.toList = rs) (hN : fn.ntmps = N) (hs : fn.body.bind (strip N G) = some ac) (hn : args.length ≤ N) (h : vc P T O ac (FinM T rs r m') ⟨envOf 0 args, []⟩) : CallM P f args r m' := by
  cases hb : fn.body with
  | none => rw [hb] at hs; cases hs
  | some c =>
  rw [hb] at hs
  subst hN hr
  refine ⟨⟨fn, hf, (fun e => by rw [e] at hname; simp at hname), by rw [hb]; simp⟩, fun w X vs hX hlen hargs => ?_⟩
  refine calls_of_vc hT hm hf hb hs (B := ⟨w, X, Noblk, fn.ntmps, Mu.none, []⟩) rfl rfl (rel_of_args hX hlen hargs hn) h (fun id s' hq => hq) ?_
  intro a' w' s0 hrel0 hq
  have hq' : ∃ ids, frzs ids (fun s1 => ∃ nm, rens nm (fun s' => PreK (resL T s' fn.results.toList ∧ matM s'.mem m' m') (renA (shf 0 m') (resA (resV T s' fn.results.toList)) = r)) s1) s0 := by rcases hq with hq | hq <;> exact hq
  obtain ⟨ids, hz⟩ := hq'
  obtain ⟨s1, ⟨nm, hz1⟩, hrel1⟩ := frzs_rel hz hrel0
  obtain ⟨s', ⟨⟨hl, hmat⟩, heq⟩, μ, hr⟩ := rens_rel hz1 hrel1
  obtain ⟨vl, hrun, hvl, hrep⟩ := run_results hT hr fn.results.toList hl
  have hrun2 : (results fn a'.tmps).run P w' = .ok (if h : vl.length = 1 then vl[0]'(by omega) else .tuple vl.toArray) w' := by
    rw [results_eq, Sem.run_bind, Array.mapM_eq_mapM_toList, Sem.run_map, hrun]
    simp only [Result.andThen_ok, Sem.run_pure, List.size_toArray, List.getElem_toArray]
  have hres : Rep w' (Yof X μ) μ (resA (resV T s' fn.results.toList)) (if h : vl.length = 1 then vl[0]'(by omega) else .tuple vl.toArray) := by
    have hlen2 : (resV T s' fn.results.toList).length = vl.length := by rw [resV_length, hvl]
    by_cases h1 : vl.length = 1
    · rw [dif_pos h1]
      cases hq : resV T s' fn.results.toList with
      | nil => rw [hq] at hlen2; simp at hlen2; omega
      | cons x l =>
        cases l with
        | nil =>
          have := hrep 0 (by omega)
          rw [hq] at this
          simp only [resA]
          simpa [List.getD_eq_getElem?_getD, h1] using this
        | cons y l => rw [hq] at hlen2; simp at hlen2; omega
    · rw [dif_neg h1]
      have hra : resA (resV T s' fn.results.toList) = .tup (resV T s' fn.results.toList) := by
        cases hq : resV T s' fn.results.toList with
        | nil => rfl
        | cons x l =>
          cases l with
          | nil => rw [hq] at hlen2; simp at hlen2; omega
          | cons y l => rfl
      rw [hra]
      refine .tup (by simp [hlen2]) fun i hi => ?_
      have := hrep i (by rw [resV_length] at hi; exact hi)
      simpa [Array.getD_eq_getD_getElem?, List.getD_eq_getElem?_getD] using this
  obtain ⟨μr, hμr⟩ : ∃ μr : Mu, μr = fun i => match find m' i with | some _ => μ i | none => none := ⟨_, rfl⟩
  have hsub : ∀ i l, μr i = some l → (∃ b, find m' i = some b) ∧ μ i = some l := by
    intro i l hi
    rw [hμr] at hi
    dsimp only at hi
    split at hi
    · rename_i b hb; exact ⟨⟨b, hb⟩, hi⟩
    · cases hi
  have hin : ∀ i b, find m' i = some b → μr i = μ i := by
    intro i b hb
    rw [hμr]
    simp [hb]
  have hbl : ∀ q, blks μr q → blks μ q := fun q ⟨i, l, n, hi, hbk⟩ => ⟨i, l, n, (hsub i l hi).2, hbk⟩
  have hY : ∀ q, ¬ Yof X μ q → q < w'.heap.size → ¬ Yof X μr q ∧ w'.heap[q]? = w'.heap[q]? := fun q hq _ => ⟨fun hy => by
    rcases hy with hx | hb
    · exact hq (.inl hx)
    · exact hq (.inr (hbl q hb)), rfl⟩
  have hlead : Leads (shf 0 m') μ μr := by
    intro i ver j u hj
    unfold shf at hj
    split at hj
    · rename_i b hb
      split at hj
      · rename_i hv
        cases hj
        obtain ⟨b', hb', hv', _⟩ := matM_find hmat hb
        obtain ⟨l, h1, h2, _⟩ := hr.inv.box i b' hb'
        exact ⟨l, l, h1, by rw [h2, ← hv', hv], (hin i b hb).trans h1, by rw [h2, ← hv', hv], rfl, rfl, rfl⟩
      · cases hj
    · cases hj
  refine ⟨_, hrun2, _, μr, rfl, ⟨hr.ext.os, hr.ext.tape, hr.ext.output, hr.ext.size, fun b hb => hr.ext.old b hb (fun h => h)⟩, fun i l hi => ?_, fun g hg => ?_, ⟨fun i hi => ?_, fun i b hi => ?_, fun i i' l l' g n n' h1 h2 h3 h4 => hr.inv.apart i i' l l' g n n' (hsub i l h1).2 (hsub i' l' h2).2 h3 h4, fun g hg => hr.inv.out g (hbl g hg)⟩, ?_⟩
  · obtain ⟨⟨b, hb⟩, hi⟩ := hsub i l hi
    obtain ⟨b', hb', hv', h0, _⟩ := matM_find hmat hb
    obtain ⟨l2, h1, h2, _⟩ := hr.inv.box i b' hb'
    rw [hi] at h1; cases h1
    omega
  · rcases hr.mine g (hbl g hg) with ho | hge
    · exact ho.elim
    · exact hge
  · rw [hμr]
    simp [hi]
  · obtain ⟨b', hb', e1, e2, e3, e4, e5⟩ := matM_find hmat hi
    obtain ⟨l, h1, h2, h3, hh⟩ := hr.inv.box i b' hb'
    refine ⟨l, (hin i b hi).trans h1, h2.trans e1.symm, h3.trans e3.symm, ?_⟩
    have hlen : b.els.length = b'.els.length := by rw [e5]; split <;> simp [renL_length]
    unfold Holds at hh ⊢
    refine ⟨by rw [hlen]; exact hh.1, ?_⟩
    have hh2 := hh.2
    dsimp only at hh2 ⊢
    cases hbk : l.blk with
    | none =>
      rw [hbk] at hh2
      exact List.eq_nil_of_length_eq_zero (by rw [hlen, hh2]; rfl)
    | some gn =>
      obtain ⟨g', n'⟩ := gn
      rw [hbk] at hh2
      refine ⟨fun hz => ?_, fun hz => ?_⟩
      · obtain ⟨c, el, hw, hcs, hfit, h1, hre⟩ := hh2.1 (by rw [← e3]; exact hz)
        refine ⟨c, el, hw, hcs, by rw [hlen, e3]; exact hfit, h1, fun q hq => ?_⟩
        rw [hlen] at hq
        obtain ⟨r1, r2⟩ := hre q hq
        rw [e4, e3, e5]
        cases hvr : b'.var with
        | true =>
          rw [hvr] at r2
          simp only [if_true] at r2 ⊢
          rw [renL_get hq, renA_width, renA_elemVal]
          exact ⟨r1, (ren_rep hlead r2 rfl).mono hY (Mu.later.refl _)⟩
        | false =>
          rw [hvr] at r2
          simp only [Bool.false_eq_true, if_false] at r2 ⊢
          exact ⟨r1, r2.mono hY (Mu.later.refl _)⟩
      · obtain ⟨hv0, es, clock, hw, hs, hre⟩ := hh2.2 (by rw [← e3]; exact hz)
        rw [e4, e5]
        simp only [hv0, Bool.false_eq_true, if_false]
        exact ⟨trivial, es, clock, hw, hs, fun i hi => (hre i hi).mono hY (Mu.later.refl _)⟩
  · rw [← heq]
    exact (ren_rep hlead hres rfl).mono hY (Mu.later.refl _)
end
theorem callM_of {P : Program} {T : TT} {O : List Nat} (hT : TOK P T) (hm : P.follows .mixedOrders = true) {f : FuncId} {fn : Func} {ac : ACode} {args : List AV} {r : AV} {m' : List (Nat × Option Box)} {N : Nat} {G : Nat → List Nat} {rs : List ResultVar}
    (hf : P.funcs[f]? = some fn) (hname : (fn.name == "runtime.NumGoroutine") = false) (hr : fn.results.toList = rs) (hN : fn.ntmps = N) (hs : fn.body.bind (strip N G) = some ac) (hn : args.length ≤ N)
    (h : vc P T O ac (FinM T rs r m') ⟨envOf 0 args, []⟩) : CallM P f args r m' := callM_of_vc hT hm hf hname hr hN hs hn h
attribute [simp] matM FinM shf shB shM
end Go.Abs
end

section
/- The value layer, part 42 (behind 25): a stretch of code that sees owned boxes as immutable lists, and of which only values without addresses come out; behind it the boxes are owned again. -/
namespace Go.Abs

/-- The state ahead of the stretch, and the slots that it has written. -/
structure Held where
  st : St
  W : List Nat

abbrev HSt := Option Held × St

def segB (B : Base) (w : World) : Base := { w0 := w, X := B.X, own := Noblk, N := B.N, mu0 := Mu.none, dfs := B.dfs }
/-- The slots beside some are as they were. -/
def Beside (D : List Nat) (a a' : Act) : Prop := ∀ t, t ∉ D → a'.tmps.getD t undef = a.tmps.getD t undef
theorem Beside.refl (D : List Nat) (a : Act) : Beside D a a := fun _ _ => rfl
theorem Beside.trans {D : List Nat} {a b c : Act} (h : Beside D a b) (k : Beside D b c) : Beside D a c := fun t ht => (k t ht).trans (h t ht)
theorem Beside.more {D E : List Nat} {a b : Act} (h : Beside D a b) (hs : ∀ t ∈ D, t ∈ E) : Beside E a b := fun t ht => h t fun hd => ht (hs t hd)
def RelH (B : Base) (w : World) (a : Act) (x : HSt) : Prop :=
  match x.1 with
  | none => Rel B w a x.2
  | some h => ∃ w1 a1, Rel B w1 a1 h.st ∧ Beside h.W a1 a ∧ Rel (segB B w1) w a x.2

def Held.add (h : Held) (D : List Nat) : Held := ⟨h.st, D ++ h.W⟩
def dstsOf (ops : List AOper) : List Nat := ops.filterMap (·.dst)

theorem postNo {B : Base} {Q : AExit → St → Prop} : ¬ LetsOut (post B Q) := fun ⟨_, _, h⟩ => h
/-! ### the slots that a region leaves alone -/
theorem put_beside {D : List Nat} {a : Act} {dst : Option Nat} (hd : ∀ t, dst = some t → t ∈ D) (v : Value) : Beside D a (a.put dst v) := by
  intro t ht
  cases dst with
  | none => rfl
  | some d =>
    have hne : d ≠ t := fun e => ht (e ▸ hd d rfl)
    simp [Act.put, Array.getD_eq_getD_getElem?, Array.getElem?_setIfInBounds, hne]
def fr (D : List Nat) (a : Act) (Q : Exit → Act → World → Prop) : Exit → Act → World → Prop := fun e a' w' => Q e a' w' ∧ (e = .normal → Beside D a a')
section
variable {P : Program} {ops : Array Oper} {Q Q' : Exit → Act → World → Prop} {md : Region.Mode}
theorem oper_beside {D : List Nat} {o : Oper} (hd : ∀ t, o.dst = some t → t ∈ D) {a : Act} {w : World} {K K' : Act → World → Prop} (hK : ∀ a' w', Beside D a a' → K a' w' → K' a' w') (hQ : ∀ c w', Q (.panic c) a w' → Q' (.panic c) a w') (hL : LetsOut Q → LetsOut Q')
    (h : o.wp P a w K Q) : o.wp P a w K' Q' := by
  unfold Oper.wp at *
  generalize (execOp a.eval o).run P w = r at *
  cases r with
  | ok n w' =>
    cases n with
    | value v => exact hK _ _ (put_beside hd v) h
    | skip => exact hK _ _ (put_beside hd undef) h
    | defer d => exact hK _ _ (put_beside (a := { a with defers := d :: a.defers }) hd undef) h
    | enter f args =>
      exact Calls.mono h fun e w'' he => by
        cases e with
        | returned v => exact hK _ _ (put_beside hd v) he
        | panicked c => exact hQ _ _ he
        | outgrown => exact hL he
    | row r args => exact Rows.mono h fun v _ he => hK _ _ (put_beside hd v) he
    | _ => exact h
  | halt x w' => cases x <;> simp only [Oper.upon] at h ⊢ <;> first | exact hQ _ _ h | exact h
theorem wpOp_beside {D : List Nat} {i : Nat} (hd : ∀ o : Oper, ops[i]? = some o → ∀ t, o.dst = some t → t ∈ D) {a : Act} {w : World} {K K' : Act → World → Prop} (hK : ∀ a' w', Beside D a a' → K a' w' → K' a' w') (hQ : ∀ c w', Q (.panic c) a w' → Q' (.panic c) a w')
    (hL : LetsOut Q → LetsOut Q') (h : wpOp P ops Q i K a w) : wpOp P ops Q' i K' a w := by
  unfold wpOp at *
  cases ho : ops[i]? with
  | none => rw [ho] at h; exact hK _ _ (.refl D a) h
  | some o =>
    rw [ho] at h
    simp only at h ⊢
    by_cases hw : Region.wanted o (yielded ops a.tmps) = true
    · rw [if_pos hw] at h ⊢
      exact h.imp (oper_beside (hd o ho) hK hQ hL) fun ⟨h1, h2⟩ => ⟨h1, hL h2⟩
    · rw [if_neg hw] at h ⊢
      exact hK _ _ (put_beside (hd o ho) undef) h
theorem wpOps_beside {D : List Nat} (hd : ∀ (i : Nat) (o : Oper), ops[i]? = some o → ∀ t, o.dst = some t → t ∈ D) (hL : ¬ LetsOut Q) (a0 : Act) : ∀ (l : List Nat) (a : Act) (w : World), Beside D a0 a → wpOps P ops Q l a w → wpOps P ops (fr D a0 Q) l a w
  | [], a, w, hb, h => ⟨h, fun _ => hb⟩
  | i :: l, a, w, hb, h => by
    rw [wpOps_cons] at h ⊢
    exact wpOp_beside (hd i) (fun a' w' hb' hk => wpOps_beside hd hL a0 l a' w' (hb.trans hb') hk) (fun c w' hq => ⟨hq, fun e => by cases e⟩) (fun hl => absurd hl hL) h
theorem wpAny_beside {D : List Nat} (hd : ∀ (i : Nat) (o : Oper), ops[i]? = some o → ∀ t, o.dst = some t → t ∈ D) (hL : ¬ LetsOut Q) (a0 : Act) : ∀ (fuel : Nat) (listed : Array Bool) (a : Act) (w : World), Beside D a0 a → wpAny P md ops Q fuel listed a w → wpAny P md ops (fr D a0 Q) fuel listed a w
  | 0, _, a, w, hb, h => ⟨h.1, h.2, fun _ => hb⟩
  | fuel + 1, listed, a, w, hb, h => ⟨fun e => ⟨h.1 e, fun _ => hb⟩, fun i hi => wpOp_beside (hd i) (fun a' w' hb' hk => wpAny_beside hd hL a0 fuel _ a' w' (hb.trans hb') hk) (fun c w' hq => ⟨hq, fun e => by cases e⟩) (fun hl => absurd hl hL) (h.2 i hi)⟩
end

/-! ### ahead of the stretch and behind it -/
def deepEnv (s : St) : List Nat → List (Nat × AV)
  | [] => []
  | t :: l => (t, deep s.mem (get s.env t)) :: deepEnv s l
def deepEnvOK (s : St) : List Nat → Prop
  | [] => True
  | t :: l => deepOK s.mem (get s.env t) ∧ deepEnvOK s l
def flatEnv (s : St) : List Nat → List (Nat × AV)
  | [] => []
  | t :: l => (t, get s.env t) :: flatEnv s l
def flatEnvOK (s : St) : List Nat → Prop
  | [] => True
  | t :: l => flat (get s.env t) = true ∧ flatEnvOK s l
def keepEnv (s : St) : List Nat → List (Nat × AV)
  | [] => []
  | t :: l => (t, get s.env t) :: keepEnv s l
/-- Ahead of a region: nothing; or a stretch begins, of which some slots are seen; or it ends: some slots come out of it, others are what they were. -/
def Shift (x y : HSt) : Prop :=
  y = x ∨
  (∃ ts, x.1 = none ∧ deepEnvOK x.2 ts ∧ y = (some ⟨x.2, []⟩, ⟨deepEnv x.2 ts, []⟩)) ∨
  (∃ h us ts, x.1 = some h ∧ flatEnvOK x.2 us ∧ (ts.all fun t => !h.W.contains t) = true ∧ y = (none, ⟨flatEnv x.2 us ++ keepEnv h.st ts, h.st.mem⟩))
def ShiftK (F : HSt → Prop) (x : HSt) (_t : Tag F := ()) (_u : Tag x := ()) : Prop := ∃ y, Shift x y ∧ F y
theorem ShiftK.start {F : HSt → Prop} {s : St} (ts : List Nat) (h : deepEnvOK s ts) (hk : F (some ⟨s, []⟩, ⟨deepEnv s ts, []⟩)) : ShiftK F (none, s) := ⟨_, .inr (.inl ⟨ts, rfl, h, rfl⟩), hk⟩
theorem ShiftK.stop {F : HSt → Prop} {h : Held} {s : St} (us ts : List Nat) (h1 : flatEnvOK s us) (h2 : (ts.all fun t => !h.W.contains t) = true) (hk : F (none, ⟨flatEnv s us ++ keepEnv h.st ts, h.st.mem⟩)) : ShiftK F (some h, s) := ⟨_, .inr (.inr ⟨h, us, ts, rfl, h1, h2, rfl⟩), hk⟩
theorem get_deepEnv {s : St} : ∀ (ts : List Nat) (t : Nat), get (deepEnv s ts) t = .junk ∨ (t ∈ ts ∧ get (deepEnv s ts) t = deep s.mem (get s.env t))
  | [], t => .inl rfl
  | u :: l, t => by
    simp only [deepEnv, get]
    split
    · rename_i e; subst e; exact .inr ⟨by simp, rfl⟩
    · rcases get_deepEnv l t with h | ⟨h1, h2⟩
      · exact .inl h
      · exact .inr ⟨by simp [h1], h2⟩
theorem deepEnvOK_get {s : St} : ∀ {ts : List Nat}, deepEnvOK s ts → ∀ t ∈ ts, deepOK s.mem (get s.env t)
  | u :: l, h, t, ht => by
    rcases List.mem_cons.1 ht with rfl | ht
    · exact h.1
    · exact deepEnvOK_get h.2 t ht
theorem flatEnvOK_get {s : St} : ∀ {ts : List Nat}, flatEnvOK s ts → ∀ t ∈ ts, flat (get s.env t) = true
  | u :: l, h, t, ht => by
    rcases List.mem_cons.1 ht with rfl | ht
    · exact h.1
    · exact flatEnvOK_get h.2 t ht
theorem get_back {s k : St} : ∀ (us ts : List Nat) (t : Nat), get (flatEnv s us ++ keepEnv k ts) t = .junk ∨ (t ∈ us ∧ get (flatEnv s us ++ keepEnv k ts) t = get s.env t) ∨ (t ∈ ts ∧ get (flatEnv s us ++ keepEnv k ts) t = get k.env t)
  | [], [], t => .inl rfl
  | [], u :: l, t => by
    simp only [flatEnv, keepEnv, List.nil_append, get]
    split
    · rename_i e; subst e; exact .inr (.inr ⟨by simp, rfl⟩)
    · rcases get_back (s := s) (k := k) [] l t with h | ⟨h, _⟩ | ⟨h1, h2⟩
      · exact .inl h
      · cases h
      · exact .inr (.inr ⟨by simp [h1], h2⟩)
  | u :: l, ts, t => by
    simp only [flatEnv, List.cons_append, get]
    split
    · rename_i e; subst e; exact .inr (.inl ⟨by simp, rfl⟩)
    · rcases get_back (s := s) (k := k) l ts t with h | ⟨h1, h2⟩ | h
      · exact .inl h
      · exact .inr (.inl ⟨by simp [h1], h2⟩)
      · exact .inr (.inr h)
theorem yof_none {X : Nat → Prop} {w : World} : ∀ q, ¬ X q → q < w.heap.size → ¬ Yof X Mu.none q ∧ w.heap[q]? = w.heap[q]? := by
  intro q hq _
  refine ⟨fun hy => ?_, rfl⟩
  rcases hy with hx | ⟨_, _, _, h, _⟩
  · exact hq hx
  · cases h
theorem shift_rel {B : Base} {w : World} {a : Act} {x y : HSt} (hs : Shift x y) (hr : RelH B w a x) : RelH B w a y := by
  rcases hs with rfl | ⟨ts, hx, hok, rfl⟩ | ⟨k, us, ts, hx, hf, hw, rfl⟩
  · exact hr
  · unfold RelH at hr
    rw [hx] at hr
    obtain ⟨μ, h⟩ := hr
    refine ⟨w, a, ⟨μ, h⟩, .refl _ _, Mu.none, h.defers, h.size, ⟨fun _ _ => rfl, fun id b hfd => by simp [find] at hfd, fun _ _ _ _ _ _ _ h => (by cases h), ?_⟩, fun t => ?_, Ext.refl _ _, ?_, fun b hb => ⟨Nat.lt_of_lt_of_le (h.base b hb).1 h.ext.size, fun h => h⟩, fun _ _ _ h => by cases h⟩
    · rintro g ⟨_, _, _, h, _⟩; cases h
    · rcases get_deepEnv (s := x.2) ts t with e | ⟨ht, e⟩
      · rw [e]; exact .junk
      · rw [e]
        exact (rep_deep (h.env t) h.inv (deepEnvOK_get hok t ht)).mono yof_none (Mu.later.refl _)
    · rintro g ⟨_, _, _, h, _⟩; cases h
  · unfold RelH at hr
    rw [hx] at hr
    obtain ⟨w1, a1, ⟨μ1, h1⟩, hb, ⟨μ2, h2⟩⟩ := hr
    have hg : Grows w1 w := ⟨h2.ext.os, h2.ext.tape, h2.ext.output, h2.ext.size, fun b hb => h2.ext.old b hb (fun h => h)⟩
    have h3 := h1.grows hg
    refine ⟨μ1, h2.defers, h2.size, h3.inv, fun t => ?_, h3.ext, h3.mine, h3.base, h3.kept⟩
    rcases get_back (s := x.2) (k := k.st) us ts t with e | ⟨ht, e⟩ | ⟨ht, e⟩
    · rw [e]; exact .junk
    · rw [e]
      exact (h2.env t).flat _ (flatEnvOK_get hf t ht)
    · rw [e]
      have hnw : t ∉ k.W := by
        have := List.all_eq_true.1 hw t ht
        simpa using this
      have := h3.env t
      rw [← hb t hnw] at this
      exact this

/-! ### what is to be shown -/
def thenH (K : HSt → Prop) (Q : AExit → HSt → Prop) : AExit → HSt → Prop
  | .normal, s => K s
  | .exit id, s => Q (.exit id) s
  | .ret, s => Q .ret s
def blockH (id : Nat) (Q : AExit → HSt → Prop) : AExit → HSt → Prop
  | .normal, s => Q .normal s
  | .exit id', s => if id' = id then Q .normal s else Q (.exit id') s
  | .ret, s => Q .ret s
def marked (S : List Nat) : List AOper → Bool
  | o :: _ => match o.dst with
    | some d => S.contains d
    | none => false
  | [] => false
/-- S: the slots of the first operations of those regions ahead of which a stretch may begin or end. -/
def vcH (P : Program) (T : TT) (O S : List Nat) : ACode → (AExit → HSt → Prop) → HSt → Prop
  | .skip, Q, s => Q .normal s
  | .reg gs ops, Q, s => if marked S ops = true then ShiftK (fun s => frzs gs (vcOps P T O ops fun s' => Q .normal (s.1.map (·.add (dstsOf ops)), s')) s.2) s else frzs gs (vcOps P T O ops fun s' => Q .normal (s.1.map (·.add (dstsOf ops)), s')) s.2
  | .draw gs ops pairs, Q, s => if marked S ops = true then ShiftK (fun s => frzs gs (vcDraw P T O ops (fun acc s' => PreK (apartAll acc pairs = true) (Q .normal (s.1.map (·.add (dstsOf ops)), s'))) []) s.2) s
      else frzs gs (vcDraw P T O ops (fun acc s' => PreK (apartAll acc pairs = true) (Q .normal (s.1.map (·.add (dstsOf ops)), s'))) []) s.2
  | .seq a b, Q, s => vcH P T O S a (thenH (vcH P T O S b Q) Q) s
  | .cond c a b, Q, s => CondK (ev s.2.env c) (vcH P T O S a Q s) (vcH P T O S b Q s)
  | .block id b, Q, s => vcH P T O S b (blockH id Q) s
  | .loop b, Q, s => s.1 = none ∧ vc P T O (.loop b) (fun e s' => Q e (none, s')) s.2
  | .exit id, Q, s => Q (.exit id) s
  | .ret, Q, s => Q .ret s
def postH (B : Base) (Q : AExit → HSt → Prop) : Exit → Act → World → Prop
  | .normal, a, w => ∃ s, RelH B w a s ∧ Q .normal s
  | .exit id, a, w => ∃ s, RelH B w a s ∧ Q (.exit id) s
  | .ret, a, w => ∃ s, RelH B w a s ∧ Q .ret s
  | _, _, _ => False

section
variable {P : Program} {T : TT} (hT : TOK P T) {O S : List Nat}
theorem aopers_dsts {ops : Array Oper} {l : List AOper} (h : aopers ops ops.toList = some l) (i : Nat) (o : Oper) (ho : ops[i]? = some o) (t : Nat) (ht : o.dst = some t) : t ∈ dstsOf l := by
  obtain ⟨hlen, hget⟩ := aopers_get h
  obtain ⟨x, hx, hax⟩ := hget i o (by simpa using ho)
  have hdo := aoper_dst hax
  unfold dstsOf
  rw [List.mem_filterMap]
  exact ⟨x, List.mem_of_getElem? hx, by rw [hdo]; exact ht⟩
theorem strip_dsts {N : Nat} {gs : List Nat} {ops : Array Oper} {draw : Bool} {ac : ACode} (h : stripReg N gs ops draw = some ac) : ∃ l, aopers ops ops.toList = some l ∧ (ac = .reg gs l ∨ ∃ pairs, ac = .draw gs l pairs) := by
  unfold stripReg at h
  split at h
  · rename_i l hl
    refine ⟨l, hl, ?_⟩
    split at h
    · cases draw with
      | false =>
        simp only [Bool.false_eq_true, if_false, Option.some.injEq] at h
        exact .inl h.symm
      | true =>
        simp only [if_true] at h
        split at h
        · simp only [Option.map_eq_some_iff] at h
          obtain ⟨pairs, _, h⟩ := h
          exact .inr ⟨pairs, h.symm⟩
        · cases h
    · cases h
  · cases h
include hT in
theorem draw_beside (hm : P.follows .mixedOrders = true) {B : Base} {N : Nat} (hN : B.N = N) {id : Nat} {ops : Array Oper} {gs : List Nat} {l : List AOper} {pairs : List (Nat × Nat)} (hst : stripReg N gs ops true = some (.draw gs l pairs)) {D : List Nat} (hD : ∀ (i : Nat) (o : Oper), ops[i]? = some o → ∀ t, o.dst = some t → t ∈ D)
    {Q : AExit → St → Prop} {s : St} {a : Act} {w : World} (h : vcDraw P T O l (fun acc s' => PreK (apartAll acc pairs = true) (Q .normal s')) [] s) (hr : Rel B w a s) : (Code.region id ops true).wp P (fr D a (post B Q)) a w := by
  unfold stripReg at hst
  split at hst
  · rename_i l' hl
    split at hst
    · rename_i hd
      simp only [if_true] at hst
      split at hst
      · rename_i hed
        simp only [Option.map_eq_some_iff] at hst
        obtain ⟨pairs', hop, heq⟩ := hst
        cases heq
        obtain ⟨hlen, hget⟩ := aopers_get hl
        have hlen' : l.length = ops.size := by rw [hlen]; simp
        obtain ⟨E, fps, hE, ⟨hap, hQ⟩, hfl, hfg⟩ := (vcDraw_runs h).out
        have hfp := fun i o h => (hfg i o h).1
        simp only [List.nil_append] at hap
        have hedge : ∀ i o, ops[i]? = some o → ∀ e ∈ o.after, Region.binds .any e = true → e.on < i := by
          intro i o ho e he hb
          have := edgesOK_get hed i o (by simpa using ho) e.on (by simp only [edgesOf, List.mem_map, List.mem_filter]; exact ⟨e, ⟨by simpa using he, hb⟩, rfl⟩)
          omega
        have hoper : ∀ i o, ops[i]? = some o → aoper ops o = some (l.getD i ⟨none, .ready 0, 0, none⟩) := by
          intro i o ho
          obtain ⟨x, hx, hax⟩ := hget i o (by simpa using ho)
          simp [List.getD_eq_getElem?_getD, hx, hax]
        have hlg : ∀ i, i < l.length → l[i]? = some (l.getD i ⟨none, .ready 0, 0, none⟩) := by
          intro i hi
          simp [List.getD_eq_getElem?_getD, hi]
        have hpairs : ∀ i, i < l.length → ∀ j, j < i → j ∈ (ancL (ops.toList.map edgesOf) []).getD i [] ∨ ((j, i) ∈ pairs ∧ ∃ x y, l[j]? = some x ∧ l[i]? = some y ∧ slotsApart x y = true) :=
          fun i hi => outer_spec _ _ hop i (by simpa using hi)
        let Ef : Nat → List Nat := fun i => match ops[i]? with | some o => edgesOf o | none => []
        have hanc : ∀ k, ∀ j ∈ (ancL (ops.toList.map edgesOf) []).getD k [], Anc Ef k j := by
          refine mem_ancL _ [] (by simp) fun i hi j hj => ?_
          have hi' : i < ops.size := by simpa using hi
          have : (ops.toList.map edgesOf).getD i [] = edgesOf ops[i] := by simp [List.getD_eq_getElem?_getD, hi']
          rw [this] at hj
          simpa [Ef, hi'] using hj
        let p : Plan P T O ops l.length := {
          ao := fun i => l.getD i ⟨none, .ready 0, 0, none⟩
          V := fun i => (E.getD i (.junk, [])).1
          U := fun i => (E.getD i (.junk, [])).2
          F := fun i => (fps.getD i ([], [])).1
          s := s
          anc := fun i => (ancL (ops.toList.map edgesOf) []).getD i []
          size := hlen'.symm
          oper := hoper
          edge := hedge
          close := fun D hD i o ho hed' j hj => edges_close hedge D hD (E := Ef) (fun i => rfl) (hanc i j hj) o ho hed'
          still := by
            intro j i hji hi
            rcases hpairs i hi j hji with h1 | ⟨_, x, y, hx, hy, hxy⟩
            · exact .inl h1
            · right
              have ex : l.getD j ⟨none, .ready 0, 0, none⟩ = x := by simp [List.getD_eq_getElem?_getD, hx]
              have ey : l.getD i ⟨none, .ready 0, 0, none⟩ = y := by simp [List.getD_eq_getElem?_getD, hy]
              simp only [ex, ey]
              simp only [slotsApart, Bool.and_eq_true] at hxy
              refine ⟨fun t ht => disj_spec hxy.1.1 t (by rw [ht]; simp [optL]), fun t ht => disj_spec hxy.1.2 t (by rw [ht]; simp [optL]), fun t ht ht' => disj_spec hxy.2 t (by rw [ht]; simp [optL]) (by rw [ht']; simp [optL])⟩
          apart := by
            intro j i hji hi
            rcases hpairs i hi j hji with h1 | ⟨hp, _⟩
            · exact .inl h1
            · right
              obtain ⟨x, y, hx, hy, d1, d2, d3⟩ := apartAll_get hap j i hp
              have fx := hfp j _ (hlg j (by omega))
              have fy := hfp i _ (hlg i hi)
              rw [hx] at fx
              rw [hy] at fy
              simp only [Option.some.injEq] at fx fy
              rw [fx, fy] at d1 d2 d3
              exact ⟨disj_spec d1, disj_spec d2, disj_spec d3⟩
          steps := by
            intro i hi
            rw [stOf_lt i (by omega)]
            exact (hfg i _ (hlg i hi)).2 }
        have hfin : p.st (fun _ => true) = stAt l E s l.length := by
          rw [← stOf_lt l.length (Nat.le_refl _)]
          show stOf _ _ _ _ _ _ = stOf _ _ _ _ _ _
          unfold stOf
          have : (List.range l.length).filter (fun _ => true) = (List.range l.length).filter fun k => decide (k < l.length) := by
            apply List.filter_congr
            intro k hk
            simpa using hk
          rw [this]
        refine wp_region_any hm (wpAny_beside hD postNo a _ _ _ _ (.refl _ _) (any_sound hT p (B := B) (fun i hi t ht => ?_) (fun a' w' hrel => ?_) _ _ _ _ ?_ ?_ ?_ ?_))
        · rw [hN]
          exact dstsOK_get hd i _ (hlg i hi) t ht
        · rw [hfin] at hrel
          exact ⟨_, hrel, hQ⟩
        · simp [hlen']
        · intro i o ho hli
          rw [rep_false] at hli
          cases hli
        · refine Nat.le_trans (List.length_filter_le _ _) ?_
          simp [hlen']
        · have h0 : p.st (fun i => (Array.replicate ops.size false).getD i false) = s := by
            show stOf _ _ _ _ _ _ = s
            unfold stOf
            have : (List.range l.length).filter (fun i => (Array.replicate ops.size false).getD i false) = [] := by
              rw [List.filter_eq_nil_iff]
              intro i _
              rw [rep_false]
              simp
            rw [this]
            rfl
          rw [h0]
          exact hr.drew
      · cases hst
    · cases hst
  · cases hst

include hT in
/-- A region, within a stretch or without one. -/
theorem reg_soundH (hm : P.follows .mixedOrders = true) {N : Nat} {G : Nat → List Nat} {id : Nat} {ops : Array Oper} {draw : Bool} {ac : ACode} (hs : strip N G (.region id ops draw) = some ac) {l : List AOper} (hl : aopers ops ops.toList = some l) {Q : AExit → HSt → Prop} {s : HSt}
    (h : vc P T O ac (fun e s' => e = .normal ∧ Q .normal (s.1.map (·.add (dstsOf l)), s')) s.2) {B : Base} {w : World} {a : Act} (hN : B.N = N) (hr : RelH B w a s) : (Code.region id ops draw).wp P (postH B Q) a w := by
  obtain ⟨hh, s⟩ := s
  cases hh with
  | none =>
    refine wp_mono (vc_sound (O := O) hT hm _ ac hs _ s h B w a hN hr) fun e a' w' hp => ?_
    cases e with
    | normal => obtain ⟨s', h1, _, h2⟩ := hp; exact ⟨(none, s'), h1, h2⟩
    | exit id => obtain ⟨s', h1, h2, _⟩ := hp; cases h2
    | ret => obtain ⟨s', h1, h2, _⟩ := hp; cases h2
    | _ => exact hp.elim
  | some k =>
    obtain ⟨w1, a1, hr1, hb, hr2⟩ := hr
    have hD := aopers_dsts hl
    -- the region, and the slots that it leaves alone
    have key : (Code.region id ops draw).wp P (fr (dstsOf l) a (post (segB B w1) (fun e s' => e = .normal ∧ Q .normal (some (k.add (dstsOf l)), s')))) a w := by
      simp only [strip] at hs
      rcases stripReg_shape hs with ⟨rfl, l', rfl, hl', hd⟩ | ⟨rfl, l', pairs, rfl⟩
      · obtain ⟨s', h', hr'⟩ := frzs_rel h hr2
        obtain ⟨hlen, hget⟩ := aopers_get hl'
        have hlen' : l'.length = ops.size := by rw [hlen]; simp
        refine wp_region ?_
        have := vcOps_sound (O := O) hT (B := segB B w1) (ops := ops) (Q := post (segB B w1) (fun e s' => e = .normal ∧ Q .normal (some (k.add (dstsOf l)), s'))) (fun a w s hr hk => ⟨s, hr, hk⟩) l' 0 s' a w (fun i x hx => ?_) (by omega) (fun x hx t ht => ?_) h' hr'
        · have := wpOps_beside (D := dstsOf l) hD postNo a _ a w (.refl _ _) this
          simpa [hlen'] using this
        · have hi : i < ops.size := by rw [← hlen']; exact (List.getElem?_eq_some_iff.1 hx).1
          obtain ⟨y, hy, hay⟩ := hget i ops[i] (by simp [hi])
          rw [hx] at hy
          cases hy
          exact ⟨ops[i], by simp [hi], hay⟩
        · obtain ⟨i, hi⟩ := List.mem_iff_getElem?.1 hx
          show t < B.N
          rw [hN]
          exact dstsOK_get hd i x hi t ht
      · obtain ⟨s', h', hr'⟩ := frzs_rel h hr2
        exact draw_beside (O := O) (B := segB B w1) (Q := fun e s' => e = .normal ∧ Q .normal (some (k.add (dstsOf l)), s')) hT hm hN hs hD h' hr'
    refine wp_mono key fun e a' w' hp => ?_
    obtain ⟨hp, hbe⟩ := hp
    cases e with
    | normal =>
      obtain ⟨s', h1, _, h2⟩ := hp
      refine ⟨(some (k.add (dstsOf l)), s'), ⟨w1, a1, hr1, ?_, h1⟩, h2⟩
      exact (hb.more (fun t ht => by simp [Held.add, ht])).trans ((hbe rfl).more fun t ht => by simp [Held.add, ht])
    | exit id => obtain ⟨s', h1, h2, _⟩ := hp; cases h2
    | ret => obtain ⟨s', h1, h2, _⟩ := hp; cases h2
    | _ => exact hp.elim

theorem vc_reg_imp {gs : List Nat} {ops : List AOper} {K : St → Prop} {s : St} (h : frzs gs (vcOps P T O ops K) s) : vc P T O (.reg gs ops) (fun e s' => e = .normal ∧ K s') s := by
  have e : (fun s' => AExit.normal = AExit.normal ∧ K s') = K := by funext s'; simp
  show frzs gs (vcOps P T O ops (fun s' => AExit.normal = AExit.normal ∧ K s')) s
  rw [e]
  exact h
theorem vc_draw_imp {gs : List Nat} {ops : List AOper} {pairs : List (Nat × Nat)} {K : St → Prop} {s : St} (h : frzs gs (vcDraw P T O ops (fun acc s' => PreK (apartAll acc pairs = true) (K s')) []) s) : vc P T O (.draw gs ops pairs) (fun e s' => e = .normal ∧ K s') s := by
  have e : (fun s' => AExit.normal = AExit.normal ∧ K s') = K := by funext s'; simp
  show frzs gs (vcDraw P T O ops (fun acc s' => PreK (apartAll acc pairs = true) (AExit.normal = AExit.normal ∧ K s')) []) s
  have e2 : (fun (acc : List (List Nat × List Nat)) s' => PreK (apartAll acc pairs = true) (AExit.normal = AExit.normal ∧ K s')) = fun acc s' => PreK (apartAll acc pairs = true) (K s') := by
    funext acc s'
    rw [show (AExit.normal = AExit.normal ∧ K s') = K s' from propext ⟨fun h => h.2, fun h => ⟨rfl, h⟩⟩]
  rw [e2]
  exact h
include hT in
theorem vcH_sound (hm : P.follows .mixedOrders = true) {N : Nat} {G : Nat → List Nat} : ∀ (c : Code) (ac : ACode), strip N G c = some ac → ∀ (Q : AExit → HSt → Prop) (s : HSt), vcH P T O S ac Q s →
    ∀ (B : Base) (w : World) (a : Act), B.N = N → RelH B w a s → c.wp P (postH B Q) a w
  | .skip, ac, hs, Q, s, h, B, w, a, hN, hr => by
    simp only [strip, Option.some.injEq] at hs; subst hs
    exact wp_skip ⟨s, hr, h⟩
  | .region id ops draw, ac, hs, Q, s, h, B, w, a, hN, hr => by
    have hs' := hs
    simp only [strip] at hs
    obtain ⟨l, hl, rfl | ⟨pairs, rfl⟩⟩ := strip_dsts hs
    · simp only [vcH] at h
      split at h
      · obtain ⟨y, hsh, h⟩ := h
        exact reg_soundH (O := O) hT hm hs' hl (vc_reg_imp (K := fun s' => Q .normal (y.1.map (·.add (dstsOf l)), s')) h) hN (shift_rel hsh hr)
      · exact reg_soundH (O := O) hT hm hs' hl (vc_reg_imp (K := fun s' => Q .normal (s.1.map (·.add (dstsOf l)), s')) h) hN hr
    · simp only [vcH] at h
      split at h
      · obtain ⟨y, hsh, h⟩ := h
        exact reg_soundH (O := O) hT hm hs' hl (vc_draw_imp (K := fun s' => Q .normal (y.1.map (·.add (dstsOf l)), s')) h) hN (shift_rel hsh hr)
      · exact reg_soundH (O := O) hT hm hs' hl (vc_draw_imp (K := fun s' => Q .normal (s.1.map (·.add (dstsOf l)), s')) h) hN hr
  | .seq c d, ac, hs, Q, s, h, B, w, a, hN, hr => by
    simp only [strip] at hs
    cases hx : strip N G c with
    | none => rw [hx] at hs; cases hs
    | some x =>
      cases hy : strip N G d with
      | none => rw [hx, hy] at hs; cases hs
      | some y =>
        rw [hx, hy] at hs
        simp only [Option.bind_some, Option.map_some, Option.some.injEq] at hs
        subst hs
        refine wp_seq (wp_mono (vcH_sound hm c x hx _ s h B w a hN hr) ?_)
        intro e a' w' hp
        cases e with
        | normal =>
          obtain ⟨s', hr', hq⟩ := hp
          exact vcH_sound hm d y hy Q s' hq B w' a' hN hr'
        | exit id => exact hp
        | ret => exact hp
        | _ => exact hp.elim
  | .cond t c d, ac, hs, Q, s, h, B, w, a, hN, hr => by
    simp only [strip] at hs
    cases hx : strip N G c with
    | none => rw [hx] at hs; cases hs
    | some x =>
      cases hy : strip N G d with
      | none => rw [hx, hy] at hs; cases hs
      | some y =>
        rw [hx, hy] at hs
        simp only [Option.bind_some, Option.map_some, Option.some.injEq] at hs
        subst hs
        have hrr : ∃ B' : Base, Rel B' w a s.2 := by
          unfold RelH at hr
          split at hr
          · exact ⟨_, hr⟩
          · obtain ⟨w1, a1, _, _, h2⟩ := hr
            exact ⟨_, h2⟩
        obtain ⟨B', μ, hrel⟩ := hrr
        have hev := rep_ev hrel t
        simp only [vcH, CondK] at h
        split at h
        · rename_i b hb
          rw [hb] at hev
          exact wp_cond_split hev.one.1 (fun hbt => vcH_sound hm c x hx Q s (h.1 hbt) B w a hN hr) (fun hbf => vcH_sound hm d y hy Q s (h.2 hbf) B w a hN hr)
        · rename_i g b hb
          rw [hb] at hev
          obtain ⟨hg, h1, h2⟩ := h
          exact wp_cond_split (hev.maybeOf hg).one.1 (fun hbt => vcH_sound hm c x hx Q s (h1 hbt) B w a hN hr) (fun hbf => vcH_sound hm d y hy Q s (h2 hbf) B w a hN hr)
        · exact h.elim
  | .block id c, ac, hs, Q, s, h, B, w, a, hN, hr => by
    simp only [strip] at hs
    cases hx : strip N G c with
    | none => rw [hx] at hs; cases hs
    | some x =>
      rw [hx] at hs
      simp only [Option.map_some, Option.some.injEq] at hs
      subst hs
      refine wp_block (wp_mono (vcH_sound hm c x hx _ s h B w a hN hr) ?_)
      intro e a' w' hp
      cases e with
      | normal => exact hp
      | exit id' =>
        obtain ⟨s', hr', hq⟩ := hp
        simp only [blockH] at hq
        simp only [Exit.inBlock]
        by_cases e : id' = id
        · rw [if_pos e] at hq ⊢
          exact ⟨s', hr', hq⟩
        · rw [if_neg e] at hq ⊢
          exact ⟨s', hr', hq⟩
      | ret => exact hp
      | _ => exact hp.elim
  | .loop c, ac, hs, Q, s, h, B, w, a, hN, hr => by
    have hs' := hs
    simp only [strip] at hs
    cases hx : strip N G c with
    | none => rw [hx] at hs; cases hs
    | some x =>
      rw [hx] at hs
      simp only [Option.map_some, Option.some.injEq] at hs
      subst hs
      obtain ⟨h0, h⟩ := h
      obtain ⟨hh, s⟩ := s
      dsimp only at h0 h
      subst h0
      refine wp_mono (vc_sound (O := O) hT hm _ _ hs' _ s h B w a hN hr) fun e a' w' hp => ?_
      cases e with
      | normal => obtain ⟨s', h1, h2⟩ := hp; exact ⟨(none, s'), h1, h2⟩
      | exit id => obtain ⟨s', h1, h2⟩ := hp; exact ⟨(none, s'), h1, h2⟩
      | ret => obtain ⟨s', h1, h2⟩ := hp; exact ⟨(none, s'), h1, h2⟩
      | _ => exact hp.elim
  | .exit id, ac, hs, Q, s, h, B, w, a, hN, hr => by
    simp only [strip, Option.some.injEq] at hs; subst hs
    exact wp_exit ⟨s, hr, h⟩
  | .ret, ac, hs, Q, s, h, B, w, a, hN, hr => by
    simp only [strip, Option.some.injEq] at hs; subst hs
    exact wp_ret ⟨s, hr, h⟩
  | .rangeFunc _ _ _ _, ac, hs, _, _, _, _, _, _, _, _ => by simp [strip] at hs
  | .scope _, ac, hs, _, _, _, _, _, _, _, _ => by simp [strip] at hs
  | .label _, ac, hs, _, _, _, _, _, _, _, _ => by simp [strip] at hs
  | .goto _, ac, hs, _, _, _, _, _, _, _, _ => by simp [strip] at hs
  | .refuse _, ac, hs, _, _, _, _, _, _, _, _ => by simp [strip] at hs
/-- What is asked at a function's end: outside of a stretch. -/
def FinH (T : TT) (rs : List ResultVar) (r : AV) (e : AExit) (s : HSt) : Prop := s.1 = none ∧ Fin T rs r e s.2
include hT in
/-- What is shown of a function's code is its contract. -/
theorem callP_of_vcH (hm : P.follows .mixedOrders = true) {f : FuncId} {fn : Func} {c : Code} {ac : ACode} {args : List AV} {r : AV} {G : Nat → List Nat} (hf : P.funcs[f]? = some fn) (hb : fn.body = some c) (hname : fn.name ≠ "runtime.NumGoroutine")
    (hs : strip fn.ntmps G c = some ac) (hn : args.length ≤ fn.ntmps) (h : vcH P T O S ac (FinH T fn.results.toList r) (none, ⟨envOf 0 args, []⟩)) : CallP P f args r := by
  refine ⟨⟨fn, hf, hname, by rw [hb]; simp⟩, fun w X vs hX hlen hargs => ?_⟩
  let B : Base := ⟨w, X, Noblk, fn.ntmps, Mu.none, []⟩
  have hrel : Rel B w { tmps := vs ++ Array.replicate (fn.ntmps - vs.size) undef, defers := [] } ⟨envOf 0 args, []⟩ := by
    refine ⟨Mu.none, rfl, by simp [B, hlen]; omega, ⟨fun _ _ => rfl, fun id b hfd => by simp [find] at hfd, fun _ _ _ _ _ _ _ h => (by cases h), ?_⟩, fun t => ?_, Ext.refl _ _, ?_, fun b hb => ⟨hX b hb, fun h => h⟩, fun _ _ _ h => by cases h⟩
    · rintro g ⟨_, _, _, h, _⟩; cases h
    · have hY : ∀ q, ¬ X q → q < w.heap.size → ¬ Yof B.X Mu.none q ∧ w.heap[q]? = w.heap[q]? := by
        intro q hq _
        refine ⟨fun hy => ?_, rfl⟩
        rcases hy with hx | ⟨_, _, _, h, _⟩
        · exact hq hx
        · cases h
      rw [get_envOf, if_pos (Nat.zero_le _), Nat.sub_zero]
      by_cases ht : t < args.length
      · have := hargs t ht
        have e : (vs ++ Array.replicate (fn.ntmps - vs.size) undef).getD t undef = vs.getD t undef := by
          simp only [Array.getD_eq_getD_getElem?]
          rw [Array.getElem?_append_left (by omega)]
        rw [e]
        exact this.mono hY (Mu.later.refl _)
      · have : args.getD t .junk = .junk := by simp [List.getD_eq_getElem?_getD, List.getElem?_eq_none (Nat.le_of_not_lt ht)]
        rw [this]
        exact .junk
    · rintro g ⟨_, _, _, h, _⟩; cases h
  refine calls_of_wp hf hb (wp_mono (vcH_sound hT hm c ac hs _ _ h B w _ rfl hrel) ?_)
  have fin : ∀ a' w' s', Rel B w' a' s' → PreK (resL T s' fn.results.toList ∧ snapOK s'.mem (resA (resV T s' fn.results.toList))) (snap s'.mem (resA (resV T s' fn.results.toList)) = r) →
      a'.defers = [] ∧ ∃ v, (results fn a'.tmps).run P w' = .ok v w' ∧ ∃ u, Ending.returned v = .returned u ∧ Grows w w' ∧ Rep w' X Mu.none r u := by
    rintro a' w' s' ⟨μ, hr⟩ ⟨⟨hl, hsn⟩, heq⟩
    obtain ⟨vl, hrun, hvl, hrep⟩ := run_results hT hr fn.results.toList hl
    have hrun2 : (results fn a'.tmps).run P w' = .ok (if h : vl.length = 1 then vl[0]'(by omega) else .tuple vl.toArray) w' := by
      rw [results_eq, Sem.run_bind, Array.mapM_eq_mapM_toList, Sem.run_map, hrun]
      simp only [Result.andThen_ok, Sem.run_pure, List.size_toArray, List.getElem_toArray]
    refine ⟨hr.defers, _, hrun2, _, rfl, ⟨hr.ext.os, hr.ext.tape, hr.ext.output, hr.ext.size, fun b hb => hr.ext.old b hb (fun h => h)⟩, ?_⟩
    rw [← heq]
    refine rep_snap (Y := Yof B.X μ) ?_ (fun b hy hx => hy (.inl hx)) hr.inv hsn
    have hlen2 : (resV T s' fn.results.toList).length = vl.length := by rw [resV_length, hvl]
    by_cases h1 : vl.length = 1
    · rw [dif_pos h1]
      cases hq : resV T s' fn.results.toList with
      | nil => rw [hq] at hlen2; simp at hlen2; omega
      | cons x l =>
        cases l with
        | nil =>
          have := hrep 0 (by omega)
          rw [hq] at this
          simp only [resA]
          simpa [List.getD_eq_getElem?_getD, h1] using this
        | cons y l => rw [hq] at hlen2; simp at hlen2; omega
    · rw [dif_neg h1]
      have hra : resA (resV T s' fn.results.toList) = .tup (resV T s' fn.results.toList) := by
        cases hq : resV T s' fn.results.toList with
        | nil => rfl
        | cons x l =>
          cases l with
          | nil => rw [hq] at hlen2; simp at hlen2; omega
          | cons y l => rfl
      rw [hra]
      refine .tup (by simp [hlen2]) fun i hi => ?_
      have := hrep i (by rw [resV_length] at hi; exact hi)
      simpa [Array.getD_eq_getD_getElem?, List.getD_eq_getElem?_getD] using this
  intro e a' w' hp
  cases e with
  | normal =>
    obtain ⟨⟨hh, s'⟩, hr, h0, hq⟩ := hp
    dsimp only at h0 hq
    subst h0
    exact fin a' w' s' hr hq
  | ret =>
    obtain ⟨⟨hh, s'⟩, hr, h0, hq⟩ := hp
    dsimp only at h0 hq
    subst h0
    exact fin a' w' s' hr hq
  | exit id =>
    obtain ⟨s', hr, h0, hq⟩ := hp
    exact hq.elim
  | _ => exact hp.elim

end

theorem callP_ofH {P : Program} {T : TT} {O S : List Nat} (hT : TOK P T) (hm : P.follows .mixedOrders = true) {f : FuncId} {fn : Func} {ac : ACode} {args : List AV} {r : AV} {N : Nat} {G : Nat → List Nat} {rs : List ResultVar}
    (hf : P.funcs[f]? = some fn) (hname : (fn.name == "runtime.NumGoroutine") = false) (hr : fn.results.toList = rs) (hN : fn.ntmps = N) (hs : fn.body.bind (strip N G) = some ac) (hn : args.length ≤ N)
    (h : vcH P T O S ac (FinH T rs r) (none, ⟨envOf 0 args, []⟩)) : CallP P f args r := by
  cases hb : fn.body with
  | none => rw [hb] at hs; cases hs
  | some c =>
    rw [hb] at hs
    subst hN hr
    exact callP_of_vcH hT hm hf hb (fun e => by rw [e] at hname; simp at hname) hs hn h

/-! ### rules for simp -/
section
variable {P : Program} {T : TT} {O S : List Nat} {Q : AExit → HSt → Prop} {s : HSt}
@[simp] theorem vcH_skip : vcH P T O S .skip Q s = Q .normal s := Eq.trans rfl rfl
@[simp] theorem vcH_reg {gs : List Nat} {ops : List AOper} : vcH P T O S (.reg gs ops) Q s = if marked S ops = true then ShiftK (fun s => frzs gs (vcOps P T O ops fun s' => Q .normal (s.1.map (·.add (dstsOf ops)), s')) s.2) s else frzs gs (vcOps P T O ops fun s' => Q .normal (s.1.map (·.add (dstsOf ops)), s')) s.2 := Eq.trans rfl rfl
@[simp] theorem vcH_draw {gs : List Nat} {ops : List AOper} {pairs : List (Nat × Nat)} : vcH P T O S (.draw gs ops pairs) Q s = if marked S ops = true then ShiftK (fun s => frzs gs (vcDraw P T O ops (fun acc s' => PreK (apartAll acc pairs = true) (Q .normal (s.1.map (·.add (dstsOf ops)), s'))) []) s.2) s
      else frzs gs (vcDraw P T O ops (fun acc s' => PreK (apartAll acc pairs = true) (Q .normal (s.1.map (·.add (dstsOf ops)), s'))) []) s.2 := Eq.trans rfl rfl
@[simp] theorem vcH_seq {a b : ACode} : vcH P T O S (.seq a b) Q s = vcH P T O S a (thenH (vcH P T O S b Q) Q) s := Eq.trans rfl rfl
@[simp] theorem vcH_cond {c : Operand} {a b : ACode} : vcH P T O S (.cond c a b) Q s = CondK (ev s.2.env c) (vcH P T O S a Q s) (vcH P T O S b Q s) := Eq.trans rfl rfl
@[simp] theorem vcH_block {i : Nat} {b : ACode} : vcH P T O S (.block i b) Q s = vcH P T O S b (blockH i Q) s := Eq.trans rfl rfl
@[simp] theorem vcH_loop {b : ACode} {s : St} : vcH P T O S (.loop b) Q (none, s) = vc P T O (.loop b) (fun e s' => Q e (none, s')) s := by simp [vcH]
@[simp] theorem vcH_exit {i : Nat} : vcH P T O S (.exit i) Q s = Q (.exit i) s := Eq.trans rfl rfl
@[simp] theorem vcH_ret : vcH P T O S .ret Q s = Q .ret s := Eq.trans rfl rfl
@[simp] theorem thenH_normal {K : HSt → Prop} : thenH K Q .normal s = K s := Eq.trans rfl rfl
@[simp] theorem thenH_exit {K : HSt → Prop} {i : Nat} : thenH K Q (.exit i) s = Q (.exit i) s := Eq.trans rfl rfl
@[simp] theorem thenH_ret {K : HSt → Prop} : thenH K Q .ret s = Q .ret s := Eq.trans rfl rfl
@[simp] theorem blockH_normal {i : Nat} : blockH i Q .normal s = Q .normal s := Eq.trans rfl rfl
@[simp] theorem blockH_exit {i j : Nat} : blockH i Q (.exit j) s = if j = i then Q .normal s else Q (.exit j) s := Eq.trans rfl rfl
@[simp] theorem blockH_ret {i : Nat} : blockH i Q .ret s = Q .ret s := Eq.trans rfl rfl
@[simp] theorem FinH_none {rs : List ResultVar} {r : AV} {e : AExit} {s : St} : FinH T rs r e (none, s) = Fin T rs r e s := by simp [FinH]
end
attribute [simp] marked dstsOf Held.add deepEnv deepEnvOK flatEnv flatEnvOK keepEnv
end Go.Abs
end
