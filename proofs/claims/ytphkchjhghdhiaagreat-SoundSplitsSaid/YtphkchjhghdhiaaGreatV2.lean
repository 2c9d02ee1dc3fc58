/- Part 2 of the proof: the value layer and the contracts of the functions that the statement reaches; proved without conditions beyond those each theorem states. -/
import Derived.Laws.BytesString
import Derived.Test.YtphkchjhghdhiaaGreatV1
set_option linter.unusedSimpArgs false
set_option linter.unusedVariables false

section
/- The value layer, part 10: arithmetic, comparisons, lengths, literals, appends. -/
namespace Go.Abs

/-! ### arithmetic -/
def inR (k : IntKind) (n : Int) : Prop :=
  match k with
  | .i64 => -9223372036854775808 ≤ n ∧ n ≤ 9223372036854775807
  | .u8 => 0 ≤ n ∧ n ≤ 255
  | .u64 => 0 ≤ n ∧ n ≤ 18446744073709551615
  | _ => False

theorem wrap_in {k : IntKind} {n : Int} (h : inR k n) : k.wrap n = n := by
  cases k <;> simp only [inR] at h <;> first | exact h.elim | (simp [IntKind.wrap, IntKind.bits, IntKind.signed]; omega)

def binE (op : BinOp) (x y : AV) : Out :=
  match x, y with
  | .raw (.int k a), .raw (.int k' b) => match op with
    | .add => puts (k = k' ∧ inR k (a + b)) (.raw (.int k (a + b)))
    | .sub => puts (k = k' ∧ inR k (a - b)) (.raw (.int k (a - b)))
    | .mul => puts (k = k' ∧ inR k (a * b)) (.raw (.int k (a * b)))
    | .quo => puts (k = k' ∧ b ≠ 0 ∧ inR k (a.tdiv b)) (.raw (.int k (a.tdiv b)))
    | .rem => puts (k = k' ∧ b ≠ 0) (.raw (.int k (a.tmod b)))
    | .eql => puts (k = k') (.raw (.bool (decide (a = b))))
    | .neq => puts (k = k') (.raw (.bool (!decide (a = b))))
    | .lss => puts (k = k') (.raw (.bool (decide (a < b))))
    | .leq => puts (k = k') (.raw (.bool (decide (a ≤ b))))
    | .gtr => puts (k = k') (.raw (.bool (decide (b < a))))
    | .geq => puts (k = k') (.raw (.bool (decide (b ≤ a))))
    | .or => puts (k = .i64 ∧ k' = .i64 ∧ 0 ≤ a ∧ a < 1000 ∧ 0 ≤ b ∧ b < 1000) (.raw (.int .i64 ((a.toNat ||| b.toNat : Nat) : Int)))
    | .and => puts (k = k' ∧ (k = .i64 ∨ k = .u64) ∧ 0 ≤ a ∧ a < 4611686018427387904 ∧ 0 ≤ b ∧ b < 4611686018427387904) (.raw (.int k ((a.toNat &&& b.toNat : Nat) : Int)))
    | .shr => puts ((k = .i64 ∨ k = .u64) ∧ 0 ≤ b ∧ b ≤ 62) (.raw (.int k (a.fdiv (2 ^ b.toNat))))
    | .shl => puts ((k = .i64 ∨ k = .u64) ∧ 0 ≤ b ∧ b ≤ 62 ∧ inR k (a * 2 ^ b.toNat)) (.raw (.int k (a * 2 ^ b.toNat)))
    | _ => bad
  | _, _ => bad

section
variable {P : Program} {T : TT} (hT : TOK P T) {B : Base} {w : World} {a : Act} {s : St} {μ : Mu} (h : RelM B w a s μ)

theorem or_i64 {a b : Int} (ha : 0 ≤ a) (ha' : a < 1000) (hb : 0 ≤ b) (hb' : b < 1000) :
    IntKind.i64.wrap (((BitVec.ofInt IntKind.i64.bits a) ||| (BitVec.ofInt IntKind.i64.bits b)).toNat : Int) = ((a.toNat ||| b.toNat : Nat) : Int) := by
  obtain ⟨x, rfl⟩ := Int.eq_ofNat_of_zero_le ha
  obtain ⟨y, rfl⟩ := Int.eq_ofNat_of_zero_le hb
  have hx : x < 2 ^ 10 := by omega
  have hy : y < 2 ^ 10 := by omega
  have hor : x ||| y < 2 ^ 10 := Nat.or_lt_two_pow hx hy
  have e : ∀ n : Nat, n = 64 → ((BitVec.ofInt n (x : Int)) ||| (BitVec.ofInt n (y : Int))).toNat = x ||| y := by
    intro n hn
    subst hn
    rw [BitVec.toNat_or, BitVec.ofInt_natCast, BitVec.ofInt_natCast, BitVec.toNat_ofNat, BitVec.toNat_ofNat]
    rw [Nat.mod_eq_of_lt (by omega), Nat.mod_eq_of_lt (by omega)]
  rw [e IntKind.i64.bits rfl, wrap_in]
  · simp
  · simp only [inR]; omega

theorem and_64 {k : IntKind} (hk : k = .i64 ∨ k = .u64) {a b : Int} (ha : 0 ≤ a) (ha' : a < 4611686018427387904) (hb : 0 ≤ b) (hb' : b < 4611686018427387904) :
    k.wrap (((BitVec.ofInt k.bits a) &&& (BitVec.ofInt k.bits b)).toNat : Int) = ((a.toNat &&& b.toNat : Nat) : Int) := by
  obtain ⟨x, rfl⟩ := Int.eq_ofNat_of_zero_le ha
  obtain ⟨y, rfl⟩ := Int.eq_ofNat_of_zero_le hb
  have hand : x &&& y ≤ x := Nat.and_le_left
  have e : ∀ n : Nat, n = 64 → ((BitVec.ofInt n (x : Int)) &&& (BitVec.ofInt n (y : Int))).toNat = x &&& y := by
    intro n hn
    subst hn
    rw [BitVec.toNat_and, BitVec.ofInt_natCast, BitVec.ofInt_natCast, BitVec.toNat_ofNat, BitVec.toNat_ofNat]
    rw [Nat.mod_eq_of_lt (by omega), Nat.mod_eq_of_lt (by omega)]
  rcases hk with rfl | rfl
  · rw [e IntKind.i64.bits rfl, wrap_in]
    · simp
    · simp only [inR]; omega
  · rw [e IntKind.u64.bits rfl, wrap_in]
    · simp
    · simp only [inR]; omega
include h in
theorem binE_good {op : BinOp} {t : Nat} {ox oy : Operand} {x y : AV} {v u : Value} (hx : Rep w (Yof B.X μ) μ x v) (hy : Rep w (Yof B.X μ) μ y u) (hp : (binE op x y).pre) :
    Good B w a s ((do let r ← (do eqGuard op t ox oy v u; binOp op t v u : Sem Value); pure (.value r) : Sem Next).run P w) (binE op x y) := by
  unfold binE at *
  split at hp
  · rename_i k a1 k' b1
    obtain ⟨rfl, _⟩ := hx.one
    obtain ⟨rfl, _⟩ := hy.one
    have hg : ∀ op, (eqGuard op t ox oy (.int k a1) (.int k' b1)).run P w = .ok () w := by intro op; cases op <;> simp [eqGuard]
    split at hp
    · obtain ⟨rfl, hr⟩ := hp
      exact ⟨w, .int k (a1 + b1), μ, .inl (by simp [hg, binOp, Op.intArith, wrap_in hr]), h, .raw rfl⟩
    · obtain ⟨rfl, hr⟩ := hp
      exact ⟨w, .int k (a1 - b1), μ, .inl (by simp [hg, binOp, Op.intArith, wrap_in hr]), h, .raw rfl⟩
    · obtain ⟨rfl, hr⟩ := hp
      exact ⟨w, .int k (a1 * b1), μ, .inl (by simp [hg, binOp, Op.intArith, wrap_in hr]), h, .raw rfl⟩
    · obtain ⟨rfl, h0, hr⟩ := hp
      exact ⟨w, .int k (a1.tdiv b1), μ, .inl (by simp [hg, binOp, Op.intDiv, h0, wrap_in hr]), h, .raw rfl⟩
    · obtain ⟨rfl, h0⟩ := hp
      exact ⟨w, .int k (a1.tmod b1), μ, .inl (by simp [hg, binOp, Op.intDiv, h0]), h, .raw rfl⟩
    · obtain rfl := hp
      exact ⟨w, .bool (decide (a1 = b1)), μ, .inl (by simp [hg, binOp, Op.intCmp]; rfl), h, .raw rfl⟩
    · obtain rfl := hp
      exact ⟨w, .bool (!decide (a1 = b1)), μ, .inl (by simp [hg, binOp, Op.intCmp]; rfl), h, .raw rfl⟩
    · obtain rfl := hp
      exact ⟨w, .bool (decide (a1 < b1)), μ, .inl (by simp [hg, binOp, Op.intCmp]), h, .raw rfl⟩
    · obtain rfl := hp
      exact ⟨w, .bool (decide (a1 ≤ b1)), μ, .inl (by simp [hg, binOp, Op.intCmp]), h, .raw rfl⟩
    · obtain rfl := hp
      exact ⟨w, .bool (decide (b1 < a1)), μ, .inl (by simp [hg, binOp, Op.intCmp]), h, .raw rfl⟩
    · obtain rfl := hp
      exact ⟨w, .bool (decide (b1 ≤ a1)), μ, .inl (by simp [hg, binOp, Op.intCmp]), h, .raw rfl⟩
    · obtain ⟨rfl, rfl, h1, h2, h3, h4⟩ := hp
      refine ⟨w, .int .i64 ((a1.toNat ||| b1.toNat : Nat) : Int), μ, .inl ?_, h, .raw rfl⟩
      simp only [Sem.run_bind, hg, Result.andThen_ok, binOp, Op.intBits, Sem.run_pure, or_i64 h1 h2 h3 h4, ne_eq, not_true, if_false]
    · obtain ⟨rfl, hk, h1, h2, h3, h4⟩ := hp
      refine ⟨w, .int k ((a1.toNat &&& b1.toNat : Nat) : Int), μ, .inl ?_, h, .raw rfl⟩
      simp only [Sem.run_bind, hg, Result.andThen_ok, binOp, Op.intBits, Sem.run_pure, and_64 hk h1 h2 h3 h4, ne_eq, not_true, if_false]
    · obtain ⟨hk, h1, h2⟩ := hp
      have hm : min b1.toNat k.bits = b1.toNat := by
        rcases hk with rfl | rfl
        · have : IntKind.i64.bits = 64 := rfl
          omega
        · have : IntKind.u64.bits = 64 := rfl
          omega
      exact ⟨w, .int k (a1.fdiv (2 ^ b1.toNat)), μ, .inl (by simp [hg, binOp, Op.shift, hm, show ¬ b1 < 0 by omega]), h, .raw rfl⟩
    · obtain ⟨hk, h1, h2, hr⟩ := hp
      have hm : min b1.toNat k.bits = b1.toNat := by
        rcases hk with rfl | rfl
        · have : IntKind.i64.bits = 64 := rfl
          omega
        · have : IntKind.u64.bits = 64 := rfl
          omega
      exact ⟨w, .int k (a1 * 2 ^ b1.toNat), μ, .inl (by simp [hg, binOp, Op.shift, hm, show ¬ b1 < 0 by omega, wrap_in hr]), h, .raw rfl⟩
    · exact hp.elim
  · exact hp.elim

/-- '==' and '!=' of bools. -/
def boolE (op : BinOp) (x y : AV) : Out :=
  match x, y with
  | .raw (.bool a), .raw (.bool b) => match op with
    | .eql => puts True (.raw (.bool (a == b)))
    | .neq => puts True (.raw (.bool (!(a == b))))
    | _ => bad
  | _, _ => bad

def unE (op : UnOp) (x : AV) : Out :=
  match op, x with
  | .not, .raw (.bool b) => puts True (.raw (.bool (!b)))
  | .neg, .raw (.int k n) => puts (inR k (-n)) (.raw (.int k (-n)))
  | _, _ => bad

include h in
theorem unE_good {op : UnOp} {x : AV} {v : Value} (hx : Rep w (Yof B.X μ) μ x v) (hp : (unE op x).pre) :
    Good B w a s ((do pure (.value (← Op.unary op v)) : Sem Next).run P w) (unE op x) := by
  unfold unE at *
  split at hp
  · obtain ⟨rfl, _⟩ := hx.one
    exact ⟨w, _, μ, .inl (by simp [Op.unary]), h, .raw rfl⟩
  · rename_i k n
    obtain ⟨rfl, _⟩ := hx.one
    have hr : inR k (-n) := hp
    refine ⟨w, .int k (-n), μ, .inl ?_, h, .raw rfl⟩
    simp [Op.unary, Op.intArith, wrap_in hr]
  · exact hp.elim

/-! ### lengths -/
def lenE (T : TT) (t : Nat) (x : AV) : Out :=
  match tkind T t with
  | .slice _ => match x with
    | .seq _ l _ => puts (tknown T t) (.raw (.int .i64 l.length))
    | .sl _ _ _ len => puts (tknown T t) (.raw (.int .i64 len))
    | _ => bad
  | .array n _ => puts (tknown T t) (.raw (.int .i64 n))
  | _ => bad

def lenOK (m : List (Nat × Option Box)) : AV → Prop
  | .sl id ver _ _ => ∃ b, find m id = some b ∧ b.ver = ver
  | _ => True

include hT h in
theorem lenE_good {t : Nat} {x : AV} {v : Value} (hx : Rep w (Yof B.X μ) μ x v) (hok : lenOK s.mem x) (hp : (lenE T t x).pre) (ts : Array TypeId) (hts : ts[0]? = some t) (ty : TypeId) :
    Good B w a s ((do pure (.value (← Builtin.len_ ts ty #[v])) : Sem Next).run P w) (lenE T t x) := by
  unfold lenE at *
  split at hp
  · rename_i e hk
    split at hp
    · rename_i sz l full
      obtain ⟨ti, ht, _, hkk, _⟩ := tknown_some hp
      obtain ⟨d, hd, hdesc⟩ := (hT t ti ht).desc
      rw [hkk] at hk
      rw [hk] at hdesc
      simp only [TK.desc] at hdesc
      subst hdesc
      obtain ⟨p, cap, rfl⟩ := hx.seq_len
      exact ⟨w, .int .i64 l.length, μ, .inl (by simp [Builtin.len_, hts, run_underlying hd, goInt]), h, .raw rfl⟩
    · rename_i id ver off len
      obtain ⟨ti, ht, _, hkk, _⟩ := tknown_some hp
      obtain ⟨d, hd, hdesc⟩ := (hT t ti ht).desc
      rw [hkk] at hk
      rw [hk] at hdesc
      simp only [TK.desc] at hdesc
      subst hdesc
      obtain ⟨b, hb, hver⟩ := hok
      obtain ⟨l, hm, hlv, _⟩ := h.inv.box id b hb
      cases hx with
      | slOld hm2 hv' => rw [hm] at hm2; cases hm2; omega
      | slNil hm2 hv' hnf => exact ⟨w, .int .i64 0, μ, .inl (by simp [Builtin.len_, hts, run_underlying hd, goInt]), h, .raw rfl⟩
      | sl hm2 hv' hbk hc hfit hz0 => exact ⟨w, .int .i64 len, μ, .inl (by simp [Builtin.len_, hts, run_underlying hd, goInt]), h, .raw rfl⟩
    · exact hp.elim
  · rename_i n e hk
    obtain ⟨ti, ht, _, hkk, _⟩ := tknown_some hp
    obtain ⟨d, hd, hdesc⟩ := (hT t ti ht).desc
    rw [hkk] at hk
    rw [hk] at hdesc
    simp only [TK.desc] at hdesc
    subst hdesc
    exact ⟨w, .int .i64 n, μ, .inl (by simp [Builtin.len_, hts, run_underlying hd, goInt]), h, .raw rfl⟩
  · exact hp.elim

/-! ### min, max -/
def minE (max : Bool) (l : List AV) : Out :=
  match l with
  | [.raw (.int k a), .raw (.int k' b)] => puts (k = k') (.raw (.int k (if max then (if a < b then b else a) else (if b < a then b else a))))
  | _ => bad

include h in
theorem minE_good {mx : Bool} {x y : AV} {v u : Value} (hx : Rep w (Yof B.X μ) μ x v) (hy : Rep w (Yof B.X μ) μ y u) (hp : (minE mx [x, y]).pre) (ts : Array TypeId) (ty : TypeId) :
    Good B w a s ((do pure (.value (← if mx then Builtin.max_ ts ty #[v, u] else Builtin.min_ ts ty #[v, u])) : Sem Next).run P w) (minE mx [x, y]) := by
  unfold minE at *
  split at hp
  · rename_i k a1 k' b1 heq
    simp only [List.cons.injEq, and_true] at heq
    obtain ⟨rfl, rfl⟩ := heq
    obtain ⟨rfl, _⟩ := hx.one
    obtain ⟨rfl, _⟩ := hy.one
    cases mx with
    | true => exact ⟨w, .int k (if a1 < b1 then b1 else a1), μ, .inl (by simp [run_max_int2]), h, .raw rfl⟩
    | false => exact ⟨w, .int k (if b1 < a1 then b1 else a1), μ, .inl (by simp [run_min_int2]), h, .raw rfl⟩
  · exact hp.elim

/-! ### capacities -/
def capE (T : TT) (t : Nat) (x : AV) : Out :=
  match tkind T t with
  | .slice _ => match x with
    | .seq _ l full => puts (tknown T t ∧ full = true) (.raw (.int .i64 l.length))
    | _ => bad
  | _ => bad

include hT h in
theorem capE_good {t : Nat} {x : AV} {v : Value} (hx : Rep w (Yof B.X μ) μ x v) (hp : (capE T t x).pre) (ts : Array TypeId) (hts : ts[0]? = some t) (ty : TypeId) :
    Good B w a s ((do pure (.value (← Builtin.cap_ ts ty #[v])) : Sem Next).run P w) (capE T t x) := by
  unfold capE at *
  split at hp
  · rename_i e hk
    split at hp
    · rename_i sz l full
      obtain ⟨ti, ht, _, hkk, _⟩ := tknown_some hp.1
      obtain ⟨d, hd, hdesc⟩ := (hT t ti ht).desc
      rw [hkk] at hk
      rw [hk] at hdesc
      simp only [TK.desc] at hdesc
      subst hdesc
      rcases hx.seq_cells with ⟨rfl, p', rfl⟩ | ⟨b, off, cap', c, el, fr, rfl, hY, hb, hc, hff, _⟩
      · exact ⟨w, .int .i64 0, μ, .inl (by simp [Builtin.cap_, hts, run_underlying hd, goInt]), h, .raw rfl⟩
      · have := hff hp.2
        subst this
        exact ⟨w, .int .i64 l.length, μ, .inl (by simp [Builtin.cap_, hts, run_underlying hd, goInt]), h, .raw rfl⟩
    · exact hp.elim
  · exact hp.elim

/-! ### a part of a tuple -/
def tupE (x : AV) (k : Nat) : Out :=
  match x with
  | .tup l => puts (k < l.length) (nth l k)
  | _ => bad

include h in
theorem tupE_good {x : AV} {v : Value} {k : Nat} (hx : Rep w (Yof B.X μ) μ x v) (hp : (tupE x k).pre) :
    Good B w a s ((do pure (.value (← Instr.extract v k)) : Sem Next).run P w) (tupE x k) := by
  unfold tupE at *
  split at hp
  · rename_i l
    have hk : k < l.length := hp
    cases hx with
    | tup hs hh =>
      rename_i cs
      have hget : cs[k]? = some (cs.getD k undef) := by simp [Array.getD_eq_getD_getElem?, show k < cs.size by omega]
      refine ⟨w, cs.getD k undef, μ, .inl ?_, h, hh k hk⟩
      simp only [Instr.extract, Sem.run_bind]
      rw [hget]
      simp
  · exact hp.elim

/-! ### function values -/
def fnE (fn : Fn) (first captured : List AV) : Out :=
  match fn with
  | .func f => puts True (.fn f first captured)
  | _ => bad

include h in
theorem fnE_good {fn : Fn} {first captured : List AV} {fs cs : Array Value} (h1 : fs.size = first.length) (h2 : cs.size = captured.length)
    (hf : ∀ i, i < first.length → Rep w (Yof B.X μ) μ (first.getD i .junk) (fs.getD i undef))
    (hc : ∀ i, i < captured.length → Rep w (Yof B.X μ) μ (captured.getD i .junk) (cs.getD i undef)) (hp : (fnE fn first captured).pre) :
    Good B w a s ((do pure (.value (← Instr.makeFunc fn fs cs)) : Sem Next).run P w) (fnE fn first captured) := by
  unfold fnE at *
  split at hp
  · exact ⟨w, _, μ, .inl (by simp [Instr.makeFunc]), h, .fn h1 h2 hf hc⟩
  · exact hp.elim

/-! ### literals -/
/-- A list of cells, each in its place. -/
structure Cells (w : World) (Y : Nat → Prop) (μ : Mu) (l : List AV) (cs : Array Value) : Prop where
  size : cs.size = l.length
  one : ∀ j, j < l.length → (cs.getD j undef).oneCell' = true
  rep : ∀ j, j < l.length → Rep w Y μ (l.getD j .junk) (cs.getD j undef)

theorem Cells.agg {w : World} {Y : Nat → Prop} {μ : Mu} {l : List AV} {cs : Array Value} (h : Cells w Y μ l cs) : Rep w Y μ (.agg l) (.agg cs) := .agg h.size h.one h.rep

theorem Rep.toCells {w : World} {Y : Nat → Prop} {μ : Mu} {a : AV} {v : Value} (h : Rep w Y μ a v) (hs : v.oneCell' = true ∨ ∃ l, a = .agg l) : Cells w Y μ (cellsOf a) v.cells := by
  obtain ⟨h1, h2⟩ := h.cells hs
  exact ⟨by rw [cellsOf_length, h1], fun j hj => (h2 j (by rwa [cellsOf_length] at hj)).1, fun j hj => (h2 j (by rwa [cellsOf_length] at hj)).2⟩

theorem foldl_put (off : Nat) : ∀ (vs : List Value) (j0 : Nat) (cs : Array Value), off + j0 + vs.length ≤ cs.size →
    ((vs.zipIdx j0).foldl (fun cs p => cs.setIfInBounds (off + p.2) p.1) cs).size = cs.size ∧
    ∀ k, k < cs.size → ((vs.zipIdx j0).foldl (fun cs p => cs.setIfInBounds (off + p.2) p.1) cs).getD k undef = if off + j0 ≤ k ∧ k < off + j0 + vs.length then vs.getD (k - (off + j0)) undef else cs.getD k undef
  | [], j0, cs, _ => by
    refine ⟨rfl, fun k _ => ?_⟩
    rw [if_neg (by simp only [List.length_nil]; omega)]
    rfl
  | v :: vs, j0, cs, hl => by
    simp only [List.length_cons] at hl
    obtain ⟨h1, h2⟩ := foldl_put off vs (j0 + 1) (cs.setIfInBounds (off + j0) v) (by simp; omega)
    simp only [List.zipIdx_cons, List.foldl_cons]
    refine ⟨by rw [h1]; simp, fun k hk => ?_⟩
    rw [h2 k (by simpa using hk), getD_set (by omega)]
    simp only [List.length_cons]
    by_cases e : k = off + j0
    · subst e
      rw [if_neg (by omega), if_pos rfl, if_pos (by omega)]
      simp
    · by_cases hin : off + (j0 + 1) ≤ k ∧ k < off + (j0 + 1) + vs.length
      · rw [if_pos hin, if_pos (by omega)]
        have : k - (off + j0) = (k - (off + (j0 + 1))) + 1 := by omega
        rw [this]
        simp
      · rw [if_neg hin, if_neg e, if_neg (by omega)]

def fillA (place : Nat → Option (Nat × Nat)) : List AV → List (Nat × AV) → Option (List AV)
  | cells, [] => some cells
  | cells, (i, a) :: rest => match place i with
    | none => none
    | some (off, size) => if a.width = size ∧ off + a.width ≤ cells.length then fillA place (cells.take off ++ cellsOf a ++ cells.drop (off + a.width)) rest else none

theorem fillA_good {w : World} {Y : Nat → Prop} {μ : Mu} {place : Nat → Option (Nat × Nat)} : ∀ (parts : List (Nat × AV)) (vals : List (Nat × Value)) (l r : List AV) (cs : Array Value), Cells w Y μ l cs →
    parts.length = vals.length → (∀ (i : Nat) (p : Nat × AV) (q : Nat × Value), parts[i]? = some p → vals[i]? = some q → p.1 = q.1 ∧ Cells w Y μ (cellsOf p.2) q.2.cells) → fillA place l parts = some r →
    ∃ cs', Instr.fill place cs vals = some cs' ∧ Cells w Y μ r cs'
  | [], [], l, r, cs, hc, _, _, hf => by simp [fillA] at hf; subst hf; exact ⟨cs, rfl, hc⟩
  | [], _ :: _, _, _, _, _, hl, _, _ => by simp at hl
  | _ :: _, [], _, _, _, _, hl, _, _ => by simp at hl
  | (i, x) :: parts, (i', v) :: vals, l, r, cs, hc, hl, hr, hf => by
    obtain ⟨hi, hx⟩ := hr 0 _ _ rfl rfl
    simp only at hi hx
    subst hi
    simp only [fillA] at hf
    simp only [Instr.fill]
    cases hp : place i with
    | none => rw [hp] at hf; simp at hf
    | some os =>
      obtain ⟨off, size⟩ := os
      rw [hp] at hf
      simp only at hf ⊢
      split at hf
      · rename_i hcond
        obtain ⟨hw, hfit⟩ := hcond
        have hvs : v.cells.size = x.width := by rw [hx.size, cellsOf_length]
        have hcond2 : ¬ (v.cells.size ≠ size || decide (off + v.cells.size > cs.size)) = true := by
          simp only [Bool.or_eq_true, decide_eq_true_eq, not_or, hvs, hc.size]
          exact ⟨by simp [hw], by omega⟩
        rw [if_neg hcond2]
        have hfold := foldl_put off v.cells.toList 0 cs (by simp [hvs, hc.size]; omega)
        simp only [Nat.add_zero, Array.length_toList] at hfold
        have heq : v.cells.zipIdx.foldl (fun cs p => cs.setIfInBounds (off + p.2) p.1) cs = (v.cells.toList.zipIdx 0).foldl (fun cs p => cs.setIfInBounds (off + p.2) p.1) cs := by
          rw [← Array.foldl_toList, Array.toList_zipIdx]
        rw [← heq] at hfold
        refine fillA_good parts vals _ r _ ⟨?_, ?_, ?_⟩ (by simpa using hl) (fun i p q h1 h2 => hr (i + 1) p q (by simpa using h1) (by simpa using h2)) hf
        · rw [hfold.1, hc.size]
          simp [cellsOf_length]; omega
        · intro j hj
          have hj' : j < cs.size := by rw [hc.size]; simp [cellsOf_length] at hj; omega
          rw [hfold.2 j hj']
          by_cases hin : off ≤ j ∧ j < off + v.cells.size
          · rw [if_pos hin]
            have := hx.one (j - off) (by rw [cellsOf_length]; omega)
            simpa [Array.getD_eq_getD_getElem?, List.getD_eq_getElem?_getD] using this
          · rw [if_neg hin]
            exact hc.one j (by rw [← hc.size]; exact hj')
        · intro j hj
          have hj' : j < cs.size := by rw [hc.size]; simp [cellsOf_length] at hj; omega
          rw [hfold.2 j hj', hvs]
          have hlen := cellsOf_length x
          have hls := hc.size
          by_cases h1 : j < off
          · rw [if_neg (by omega)]
            have : (l.take off ++ cellsOf x ++ l.drop (off + x.width)).getD j .junk = l.getD j .junk := by
              simp only [List.getD_eq_getElem?_getD]
              rw [List.append_assoc, List.getElem?_append_left (by simp; omega), List.getElem?_take, if_pos h1]
            rw [this]
            exact hc.rep j (by omega)
          · by_cases h2 : j < off + x.width
            · rw [if_pos (by omega)]
              have : (l.take off ++ cellsOf x ++ l.drop (off + x.width)).getD j .junk = (cellsOf x).getD (j - off) .junk := by
                simp only [List.getD_eq_getElem?_getD]
                rw [List.append_assoc, List.getElem?_append_right (by simp; omega), List.length_take, Nat.min_eq_left (by omega), List.getElem?_append_left (by omega)]
              rw [this]
              have := hx.rep (j - off) (by omega)
              simpa [Array.getD_eq_getD_getElem?, List.getD_eq_getElem?_getD] using this
            · rw [if_neg (by omega)]
              have : (l.take off ++ cellsOf x ++ l.drop (off + x.width)).getD j .junk = l.getD j .junk := by
                simp only [List.getD_eq_getElem?_getD]
                rw [List.getElem?_append_right (by simp; omega), List.getElem?_drop]
                congr 2
                simp; omega
              rw [this]
              exact hc.rep j (by omega)
      · simp at hf
end

end Go.Abs
end

section
/- The value layer, part 11: struct and slice literals, make, append. -/
namespace Go.Abs

section
variable {P : Program} {T : TT} (hT : TOK P T) {B : Base} {w : World} {a : Act} {s : St} {μ : Mu} (h : RelM B w a s μ)

/-- A row of cells that are elements. -/
structure Row (w : World) (Y : Nat → Prop) (ν : Mu) (sz : Nat) (els : List AV) (cs : Array Value) : Prop where
  size : cs.size = els.length * sz
  one : ∀ j, j < cs.size → (cs.getD j undef).oneCell' = true
  rep : ∀ i, i < els.length → (els.getD i .junk).width = sz ∧ Rep w Y ν (els.getD i .junk) (elemVal (els.getD i .junk) sz cs (i * sz))

theorem zero_row {w : World} {Y : Nat → Prop} {ν : Mu} {z : Array Value} {sz n : Nat} {e : AV} (hz : z.size = sz) (hp : 0 < sz) (h1 : ∀ j, j < sz → (z.getD j undef).oneCell' = true) (hw : e.width = sz)
    (hr : Rep w Y ν e (elemVal e sz z 0)) : Row w Y ν sz (List.replicate n e) ((Array.range (n * sz)).map (z[· % z.size]!)) := by
  have hget : ∀ j, j < n * sz → ((Array.range (n * sz)).map (z[· % z.size]!)).getD j undef = z.getD (j % sz) undef := by
    intro j hj
    have hm : j % sz < z.size := by rw [hz]; exact Nat.mod_lt _ hp
    simp [Array.getD_eq_getD_getElem?, hj, hz]
    have hm' : j % sz < z.size := hm
    simp [hm']
  refine ⟨by simp, ?_, ?_⟩
  · intro j hj
    have hj' : j < n * sz := by simpa using hj
    rw [hget j hj']
    exact h1 _ (Nat.mod_lt _ hp)
  · intro i hi
    have hi' : i < n := by simpa using hi
    have hg : (List.replicate n e).getD i .junk = e := by simp [List.getD_eq_getElem?_getD, hi']
    rw [hg]
    refine ⟨hw, ?_⟩
    have hfi := mul_lt_of_fit hi' (Nat.le_refl (n * sz))
    rw [← elemVal_congr hw (c := z) (o := 0) (by omega) (by simp; omega) (fun j hj => ?_)]
    · exact hr
    · rw [hget _ (by omega)]
      congr 1
      rw [Nat.zero_add, Nat.mul_comm, Nat.mul_add_mod, Nat.mod_eq_of_lt hj]

include hT in
/-- The zero value of a type as an element. -/
theorem zero_elem {e : Nat} {te : TI} (hte : T e = some te) : ∃ z, (∀ w, (zeroValue e).run P w = .ok z w) ∧ z.cells.size = te.size ∧ (∀ j, j < te.size → (z.cells.getD j undef).oneCell' = true) ∧
    (∀ w Y μ, Cells w Y μ (cellsOf te.zero) z.cells) ∧ ∀ w Y μ, Rep w Y μ te.zero (elemVal te.zero te.size z.cells 0) := by
  have hk := hT e te hte
  obtain ⟨z, hz, hzc, hz1, hzr⟩ := hk.run_zeros
  have hlen : (cellsOf te.zero).length = te.size := by rw [cellsOf_length, hk.width]
  refine ⟨z, hz, hzc, hz1, fun w Y μ => ⟨by rw [hzc, hlen], fun j hj => hz1 j (by omega), fun j hj => hzr w Y μ j (by omega)⟩, fun w Y μ => ?_⟩
  have := rep_elem (w := w) (Y := Y) (μ := μ) (e := te.zero) (c := z.cells) (o0 := 0) (by rw [hk.width, hzc]; simp) (fun j _ hj => hz1 j (by rw [hk.width] at hj; omega))
    (fun j hj => by simpa using hzr w Y μ j (by rw [hk.width] at hj; exact hj))
  rw [hk.width] at this
  exact this

/-! ### struct and array literals -/
def placeOf (T : TT) (k : TK) (i : Nat) : Option (Nat × Nat) :=
  match k with
  | .struct fs => (fs[i]?).map fun f => (f.1, f.2.1)
  | .array _ e => some (i * tsize T e, tsize T e)
  | _ => none
def ftype (k : TK) (i : Nat) : Nat :=
  match k with
  | .struct fs => match fs[i]? with | some f => f.2.2 | none => 0
  | .array _ e => e
  | .slice e => e
  | _ => 0

def partsOK (m : List (Nat × Option Box)) : List (Nat × AV) → Prop
  | [] => True
  | p :: l => AV.solid m p.2 ∧ partsOK m l

def nrms (T : TT) (k : TK) : List (Nat × AV) → List (Nat × AV)
  | [] => []
  | p :: l => (p.1, nrm T (ftype k p.1) p.2) :: nrms T k l

def kindOK (T : TT) : TK → Prop
  | .array _ e => tknown T e
  | .struct _ => True
  | _ => False

def buildE (T : TT) (m : List (Nat × Option Box)) (t : Nat) (parts : List (Nat × AV)) : Out :=
  match fillA (placeOf T (tkind T t)) (cellsOf (tzero T t)) (nrms T (tkind T t) parts) with
  | some cells => puts (tknown T t ∧ kindOK T (tkind T t) ∧ partsOK m (nrms T (tkind T t) parts)) (.agg cells)
  | none => bad

theorem nrms_spec {T : TT} {k : TK} : ∀ {parts : List (Nat × AV)} {i : Nat} {p : Nat × AV}, (nrms T k parts)[i]? = some p → ∃ q, parts[i]? = some q ∧ p.1 = q.1 ∧ p.2 = nrm T (ftype k q.1) q.2
  | q :: l, 0, p, h => by simp [nrms] at h; subst h; exact ⟨q, rfl, rfl, rfl⟩
  | q :: l, i + 1, p, h => by simp [nrms] at h; simpa using nrms_spec h

theorem nrms_length {T : TT} {k : TK} : ∀ {parts : List (Nat × AV)}, (nrms T k parts).length = parts.length
  | [] => rfl
  | q :: l => by simp [nrms, nrms_length]

theorem partsOK_spec {m : List (Nat × Option Box)} : ∀ {parts : List (Nat × AV)}, partsOK m parts → ∀ {i : Nat} {p : Nat × AV}, parts[i]? = some p → AV.solid m p.2
  | q :: l, h, 0, p, e => by simp at e; subst e; exact h.1
  | q :: l, h, i + 1, p, e => partsOK_spec h.2 (by simpa using e)

include h in
theorem parts_cells {k : TK} {parts : List (Nat × AV)} {vals : List (Nat × Value)} (hlen : parts.length = vals.length)
    (hr : ∀ (i : Nat) (p : Nat × AV) (q : Nat × Value), parts[i]? = some p → vals[i]? = some q → p.1 = q.1 ∧ Rep w (Yof B.X μ) μ p.2 q.2) (hok : partsOK s.mem (nrms T k parts)) :
    ∀ (i : Nat) (p : Nat × AV) (q : Nat × Value), (nrms T k parts)[i]? = some p → vals[i]? = some q → p.1 = q.1 ∧ Cells w (Yof B.X μ) μ (cellsOf p.2) q.2.cells := by
  intro i p q hp hq
  obtain ⟨p', hp', e1, e2⟩ := nrms_spec hp
  obtain ⟨e3, hrep⟩ := hr i p' q hp' hq
  have hs := partsOK_spec hok hp
  refine ⟨e1.trans e3, ?_⟩
  rw [e2] at hs ⊢
  exact (rep_nrm hrep).toCells ((rep_nrm hrep).solid h.inv hs)

theorem mapM_map {α β γ : Type} {f : α → Option β} {g : β → γ} : ∀ {l : List α} {r : List β}, l.mapM f = some r → l.mapM (fun x => (f x).map g) = some (r.map g)
  | [], r, h => by simp at h; subst h; simp
  | x :: l, r, h => by
    simp only [List.mapM_cons, Option.bind_eq_bind, Option.pure_def] at h ⊢
    cases hx : f x with
    | none => simp [hx] at h
    | some z =>
      cases hl : l.mapM f with
      | none => simp [hx, hl] at h
      | some zs =>
        simp [hx, hl] at h
        subst h
        simp [mapM_map hl]

include hT h in
theorem buildE_good {t : Nat} {parts : List (Nat × AV)} {vals : Array (Nat × Value)} (hlen : parts.length = vals.size)
    (hr : ∀ (i : Nat) (p : Nat × AV) (q : Nat × Value), parts[i]? = some p → vals[i]? = some q → p.1 = q.1 ∧ Rep w (Yof B.X μ) μ p.2 q.2) (hp : (buildE T s.mem t parts).pre) :
    Good B w a s ((do pure (.value (← Instr.build t vals)) : Sem Next).run P w) (buildE T s.mem t parts) := by
  unfold buildE at *
  split at hp
  · rename_i cells hf
    obtain ⟨hkn, hko, hok⟩ := hp
    obtain ⟨ti, ht, hz, hkk, hzz⟩ := tknown_some hkn
    obtain ⟨z, hzr, hzc, hz1, hzcells, _⟩ := zero_elem hT ht
    have hparts := parts_cells h (k := tkind T t) (vals := vals.toList) (by simpa using hlen) (fun i p q h1 h2 => hr i p q h1 (by simpa using h2)) hok
    rw [hzz] at hf
    obtain ⟨cs', hfill, hcells⟩ := fillA_good _ vals.toList _ _ z.cells (hzcells w (Yof B.X μ) μ) (by rw [nrms_length]; simpa using hlen) hparts hf
    obtain ⟨d, hd, hdesc⟩ := (hT t ti ht).desc
    obtain ⟨i, z', hi, _, _, hz', _⟩ := (hT t ti ht).info
    have hzeq : z' = z := by
      have := hzr w
      simp [zeroValue, typeInfo, hi, hz'] at this
      exact this
    subst hzeq
    refine ⟨w, .agg cs', μ, .inl ?_, h, hcells.agg⟩
    rw [Sem.run_bind, run_build w t vals cs']
    · rfl
    · unfold Program.built
      rw [hi, hd]
      cases hk : tkind T t with
      | struct fs =>
        rw [hkk] at hk
        rw [hk] at hdesc
        obtain ⟨fields, rfl, hm⟩ := hdesc
        simp only [hz']
        have hm2 := mapM_map (g := fun (p : Nat × Nat × Nat) => (p.1, p.2.1)) hm
        have : (fun (f : Field) => (P.info? f.type).map fun i => (f.offset, i.size)) = (fun x => Option.map (fun (p : Nat × Nat × Nat) => (p.1, p.2.1)) ((P.info? x.type).map fun i => (x.offset, i.size, x.type))) := by
          funext f
          cases P.info? f.type <;> rfl
        rw [this, hm2]
        simp only
        rw [hkk, hk] at hfill
        have hpl : (fun x => (fs.map (fun (p : Nat × Nat × Nat) => (p.1, p.2.1))).toArray[x]?) = placeOf T (.struct fs) := by
          funext x
          simp [placeOf]
        rw [hpl]
        exact hfill
      | array n e =>
        have hko' := hko
        rw [hk] at hko'
        obtain ⟨te, hte, hze, _⟩ := tknown_some hko'
        rw [hkk] at hk
        rw [hk] at hdesc
        simp only [TK.desc] at hdesc
        subst hdesc
        obtain ⟨ie, ze, hie, hies, _⟩ := (hT e te hte).info
        simp only [hz', hie]
        rw [hkk, hk] at hfill
        have hpl : (fun i => some (i * ie.size, ie.size)) = placeOf T (.array n e) := by
          funext x
          simp [placeOf, hze, hies]
        rw [hpl]
        exact hfill
      | slice e => rw [hk] at hko; exact hko.elim
      | int k => rw [hk] at hko; exact hko.elim
      | bool => rw [hk] at hko; exact hko.elim
      | map k e kk => rw [hk] at hko; exact hko.elim
      | str => rw [hk] at hko; exact hko.elim
      | flat => rw [hk] at hko; exact hko.elim
  · exact hp.elim

/-! ### slice literals -/
def setEls : List AV → List (Nat × AV) → List AV
  | els, [] => els
  | els, p :: l => setEls (els.set p.1 p.2) l

def elsOK (sz n : Nat) : List (Nat × AV) → Prop
  | [] => True
  | p :: l => p.1 < n ∧ p.2.width = sz ∧ p.2.refs = [] ∧ elsOK sz n l

/-- The same; names may be held. -/
def elsOKb (b : Bool) (sz n : Nat) : List (Nat × AV) → Prop
  | [] => True
  | p :: l => p.1 < n ∧ p.2.width = sz ∧ (b = true ∨ p.2.refs = []) ∧ elsOKb b sz n l
theorem setEls_length : ∀ (parts : List (Nat × AV)) (els : List AV), (setEls els parts).length = els.length
  | [], _ => rfl
  | p :: l, els => by simp [setEls, setEls_length l]

/-- One element more. -/
theorem Row.put {w : World} {Y : Nat → Prop} {μ ν : Mu} {sz : Nat} {els : List AV} {cs : Array Value} (h : Row w Y ν sz els cs) {i : Nat} {x : AV} {v : Value} (hi : i < els.length) (hw : x.width = sz) (hp : 0 < sz)
    (hx : Cells w Y μ (cellsOf x) v.cells) (hr : ν = μ ∨ x.refs = []) :
    Row w Y ν sz (els.set i x) (v.cells.zipIdx.foldl (fun cs p => cs.setIfInBounds (i * sz + p.2) p.1) cs) := by
  have hvs : v.cells.size = sz := by rw [hx.size, cellsOf_length, hw]
  have hfi := mul_lt_of_fit hi (Nat.le_refl (els.length * sz))
  have hsz := h.size
  have hfold := foldl_put (i * sz) v.cells.toList 0 cs (by simp only [Array.length_toList]; omega)
  simp only [Nat.add_zero, Array.length_toList] at hfold
  have heq : v.cells.zipIdx.foldl (fun cs p => cs.setIfInBounds (i * sz + p.2) p.1) cs = (v.cells.toList.zipIdx 0).foldl (fun cs p => cs.setIfInBounds (i * sz + p.2) p.1) cs := by
    rw [← Array.foldl_toList, Array.toList_zipIdx]
  rw [← heq] at hfold
  generalize v.cells.zipIdx.foldl (fun cs p => cs.setIfInBounds (i * sz + p.2) p.1) cs = C at hfold
  obtain ⟨hC, hget⟩ := hfold
  refine ⟨by rw [hC, hsz]; simp, ?_, ?_⟩
  · intro j hj
    rw [hC] at hj
    rw [hget j hj]
    by_cases hin : i * sz ≤ j ∧ j < i * sz + v.cells.size
    · rw [if_pos hin]
      have := hx.one (j - i * sz) (by rw [cellsOf_length]; omega)
      simpa [Array.getD_eq_getD_getElem?, List.getD_eq_getElem?_getD] using this
    · rw [if_neg hin]
      exact h.one j hj
  · intro k hk
    have hk' : k < els.length := by simpa using hk
    have hfk := mul_lt_of_fit hk' (Nat.le_refl (els.length * sz))
    by_cases e : k = i
    · subst e
      have hg : (els.set k x).getD k .junk = x := by simp [List.getD_eq_getElem?_getD, hi]
      rw [hg]
      refine ⟨hw, ?_⟩
      have := rep_elem (w := w) (Y := Y) (μ := ν) (e := x) (c := C) (o0 := k * sz) (by rw [hw, hC]; omega) ?_ ?_
      · rw [hw] at this; exact this
      · intro j hj1 hj2
        rw [hw] at hj2
        rw [hget j (by omega), if_pos (by omega)]
        have := hx.one (j - k * sz) (by rw [cellsOf_length]; omega)
        simpa [Array.getD_eq_getD_getElem?, List.getD_eq_getElem?_getD] using this
      · intro j hj
        rw [hget (k * sz + j) (by omega), if_pos (by omega)]
        have : Rep w Y ν ((cellsOf x).getD j .junk) (v.cells.getD j undef) := by
          rcases hr with rfl | hr
          · simpa using hx.rep j (by rw [cellsOf_length]; exact hj)
          · exact cells_pure hr hj (hx.rep j (by rw [cellsOf_length]; exact hj)) ν
        have e1 : k * sz + j - k * sz = j := by omega
        rw [e1]
        simpa [Array.getD_eq_getD_getElem?, List.getD_eq_getElem?_getD] using this
    · have hg : (els.set i x).getD k .junk = els.getD k .junk := by simp [List.getD_eq_getElem?_getD, List.getElem?_set, Ne.symm e]
      rw [hg]
      refine ⟨(h.rep k hk').1, ?_⟩
      have hap := apart_of_ne (sz := sz) e
      rw [← elemVal_congr (h.rep k hk').1 (c := cs) (o := k * sz) (by omega) (by omega) (fun j hj => ?_)]
      · exact (h.rep k hk').2
      · rw [hget _ (by omega), if_neg (by omega)]

theorem fill_row {w : World} {Y : Nat → Prop} {μ : Mu} {sz : Nat} {vr : Bool} (hp : 0 < sz) : ∀ (parts : List (Nat × AV)) (vals : List (Nat × Value)) (els : List AV) (cs : Array Value), Row w Y (if vr then μ else Mu.none) sz els cs → parts.length = vals.length →
    (∀ (i : Nat) (p : Nat × AV) (q : Nat × Value), parts[i]? = some p → vals[i]? = some q → p.1 = q.1 ∧ Cells w Y μ (cellsOf p.2) q.2.cells) → elsOKb vr sz els.length parts →
    ∃ cs', Instr.fill (fun i => some (i * sz, sz)) cs vals = some cs' ∧ Row w Y (if vr then μ else Mu.none) sz (setEls els parts) cs'
  | [], [], els, cs, hr, _, _, _ => ⟨cs, rfl, hr⟩
  | [], _ :: _, _, _, _, hl, _, _ => by simp at hl
  | _ :: _, [], _, _, _, hl, _, _ => by simp at hl
  | (i, x) :: parts, (i', v) :: vals, els, cs, hr, hl, hc, hok => by
    obtain ⟨hi, hx⟩ := hc 0 _ _ rfl rfl
    simp only at hi hx
    subst hi
    obtain ⟨hin, hw, hrf, hrest⟩ := hok
    simp only at hin hw hrf
    have hvs : v.cells.size = sz := by rw [hx.size, cellsOf_length, hw]
    have hfi := mul_lt_of_fit hin (Nat.le_refl (els.length * sz))
    have hcond : ¬ (v.cells.size ≠ sz || decide (i * sz + v.cells.size > cs.size)) = true := by
      simp only [Bool.or_eq_true, decide_eq_true_eq, not_or, hvs, hr.size]
      exact ⟨by simp, by omega⟩
    simp only [Instr.fill, setEls]
    rw [if_neg hcond]
    exact fill_row hp parts vals _ _ (hr.put hin hw hp hx (hrf.elim (fun e => .inl (by rw [e]; rfl)) .inr)) (by simpa using hl) (fun j p q h1 h2 => hc (j + 1) p q (by simpa using h1) (by simpa using h2)) (by simpa using hrest)

def sliceLitE (T : TT) (m : List (Nat × Option Box)) (own : Bool) (d : Nat) (t : Nat) (len : Nat) (parts : List (Nat × AV)) : Out :=
  match tkind T t with
  | .slice e =>
    let els := setEls (List.replicate len (tzero T e)) (nrms T (.slice e) parts)
    let vr := !(AV.refsL els).isEmpty
    let pre := tknown T t ∧ tknown T e ∧ partsOK m (nrms T (.slice e) parts) ∧ elsOKb vr (tsize T e) len (nrms T (.slice e) parts) ∧ len * tsize T e ≤ 16777216 ∧ (tzero T e).refs = []
    if own || vr then ⟨pre, .sl d (nver m d) 0 len, [(d, some ⟨tsize T e, els, nver m d, vr⟩)]⟩ else puts pre (.seq (tsize T e) els true)
  | _ => bad

include h in
/-- A new row of cells as an immutable slice. -/
theorem row_seq {sz : Nat} {els : List AV} {cs : Array Value} (hr : Row w (Yof B.X μ) Mu.none sz els cs) (hbig : els.length ≤ big) (el : TypeId) :
    RelM B (w.alloc (.cells cs el)) a s μ ∧ Rep (w.alloc (.cells cs el)) (Yof B.X μ) μ (.seq sz els true) (.slice (some ⟨w.heap.size, 0, none⟩) els.length els.length) := by
  have hg := Grows.alloc w (.cells cs el)
  refine ⟨h.grows hg, ?_⟩
  have hY : ¬ Yof B.X μ w.heap.size := by
    intro hy
    rcases hy with hx | hb
    · have := (h.base _ hx).1
      have := h.ext.size
      omega
    · have := blks.lt h.inv hb
      omega
  refine .seq hY (alloc_new w _) (Nat.le_refl _) (fun _ => rfl) hbig (by rw [hr.size]; omega) (fun i hi => (hr.rep i hi).1) (fun j _ hj => hr.one j (by rw [hr.size]; omega)) (fun i hi => ?_)
  rw [Nat.zero_add]
  exact hg.rep (hr.rep i hi).2

include h in
/-- A new row of cells as a box. -/
theorem row_box {sz : Nat} {els : List AV} {cs : Array Value} {var : Bool} (hr : Row w (Yof B.X μ) (if var then μ else Mu.none) sz els cs) (hsz0 : sz ≠ 0) (hbig : els.length ≤ big) (el : TypeId) (d : Nat) {n cap : Nat} (hn : n ≤ cap) (hcap : cap = els.length) :
    ∃ μ', RelM B (w.alloc (.cells cs el)) a ⟨s.env, (d, some ⟨sz, els, nver s.mem d, var⟩) :: s.mem⟩ μ' ∧ Rep (w.alloc (.cells cs el)) (Yof B.X μ') μ' (.sl d (nver s.mem d) 0 n) (.slice (some ⟨w.heap.size, 0, none⟩) n cap) := by
  have hnb := new_box h d sz els var cs el hsz0 hbig (by rw [hr.size]; exact Nat.le_refl _) hr.one (fun i hi => ⟨(hr.rep i hi).1, (hr.rep i hi).2⟩)
  refine ⟨_, hnb, ?_⟩
  have := Rep.sl (w := w.alloc (.cells cs el)) (Y := Yof B.X (μ.upd d ⟨nver s.mem d, sz, 0, some (w.heap.size, cs.size)⟩)) (μ := μ.upd d ⟨nver s.mem d, sz, 0, some (w.heap.size, cs.size)⟩)
    (id := d) (ver := nver s.mem d) (off := 0) (len := n) (cap := cap) (loc := ⟨nver s.mem d, sz, 0, some (w.heap.size, cs.size)⟩) (by simp [Mu.upd]) rfl rfl hn
    (by simp only [Nat.zero_add]; rw [hr.size, hcap]) hsz0
  simpa using this

theorem refs_rep {w : World} {Y : Nat → Prop} {μ : Mu} {e : AV} (h : e.refs = []) {sz o : Nat} {c : Array Value} (hr : Rep w Y μ e (elemVal e sz c o)) : Rep w Y Mu.none e (elemVal e sz c o) := hr.pure h _

include hT h in
theorem sliceLitE_good {own : Bool} {d t len : Nat} {parts : List (Nat × AV)} {vals : Array (Nat × Value)} (hlen : parts.length = vals.size)
    (hr : ∀ (i : Nat) (p : Nat × AV) (q : Nat × Value), parts[i]? = some p → vals[i]? = some q → p.1 = q.1 ∧ Rep w (Yof B.X μ) μ p.2 q.2) (hp : (sliceLitE T s.mem own d t len parts).pre) :
    Good B w a s ((do pure (.value (← Instr.buildSlice t len vals)) : Sem Next).run P w) (sliceLitE T s.mem own d t len parts) := by
  unfold sliceLitE at *
  split at hp
  · rename_i e hk
    obtain ⟨vr, hvr⟩ : ∃ vr, vr = !(AV.refsL (setEls (List.replicate len (tzero T e)) (nrms T (.slice e) parts))).isEmpty := ⟨_, rfl⟩
    dsimp only at hp ⊢
    rw [← hvr] at hp ⊢
    have hpre : tknown T t ∧ tknown T e ∧ partsOK s.mem (nrms T (.slice e) parts) ∧ elsOKb vr (tsize T e) len (nrms T (.slice e) parts) ∧ len * tsize T e ≤ 16777216 ∧ (tzero T e).refs = [] := by
      cases own <;> cases vr <;> exact hp
    clear hvr
    obtain ⟨hkn, hke, hok, hels, h24, hzref⟩ := hpre
    obtain ⟨ti, ht, _, hkk, _⟩ := tknown_some hkn
    obtain ⟨te, hte, hze, _, hzz⟩ := tknown_some hke
    have hkt := hT e te hte
    have hpos := hkt.pos
    obtain ⟨dd, hd, hdesc⟩ := (hT t ti ht).desc
    rw [hkk] at hk
    rw [hk] at hdesc
    simp only [TK.desc] at hdesc
    subst hdesc
    obtain ⟨z, hzr, hzc, hz1, hzcells, hzel⟩ := zero_elem hT hte
    have hparts := parts_cells h (k := .slice e) (vals := vals.toList) (by simpa using hlen) (fun i p q h1 h2 => hr i p q h1 (by simpa using h2)) hok
    rw [hze] at hels h24
    rw [hzz] at hzref
    rw [hze, hzz]
    have hrow : Row w (Yof B.X μ) (if vr then μ else Mu.none) te.size (List.replicate len te.zero) ((Array.range (len * te.size)).map (z.cells[· % z.cells.size]!)) :=
      zero_row hzc hpos hz1 hkt.width ((hzel w (Yof B.X μ) μ).pure hzref _)
    obtain ⟨cs', hfill, hrow'⟩ := fill_row hpos _ vals.toList _ _ hrow (by rw [nrms_length]; simpa using hlen) hparts (by simpa using hels)
    have hlen' : (setEls (List.replicate len te.zero) (nrms T (.slice e) parts)).length = len := by rw [setEls_length]; simp
    have hbig : (setEls (List.replicate len te.zero) (nrms T (.slice e) parts)).length ≤ big := by
      rw [hlen']
      have : len * 1 ≤ len * te.size := Nat.mul_le_mul_left _ hpos
      simp only [big]; omega
    have hrun : (Instr.buildSlice t len vals).run P w = .ok (.slice (some ⟨w.heap.size, 0, none⟩) len len) (w.alloc (.cells cs' e)) := by
      have hnot : ¬ (16777216 < len * te.size) := by omega
      by_cases h0 : len * te.size = 0
      · have hl0 : len = 0 := by
          rcases Nat.mul_eq_zero.1 h0 with h | h
          · exact h
          · omega
        subst hl0
        have hvn : vals.toList = [] := by
          cases hv : vals.toList with
          | nil => rfl
          | cons q qs =>
            exfalso
            have hpl : 0 < parts.length := by rw [hlen]; have : vals.toList.length = vals.size := by simp
                                              rw [hv] at this; simp at this; omega
            cases parts with
            | nil => simp at hpl
            | cons p ps => simp [nrms, elsOKb] at hels
        rw [hvn] at hfill
        simp [Instr.fill] at hfill
        subst hfill
        simp [Instr.buildSlice, run_underlying hd, hkt.run_size, hvn, Instr.fill, newRow, show Array.range 0 = #[] from rfl]
      · simp [Instr.buildSlice, run_underlying hd, hkt.run_size, hnot, h0, hzr, hfill, newRow]
    cases hov : (own || vr) with
    | true =>
      obtain ⟨μ', hrel, hrep⟩ := row_box h (var := vr) hrow' (by omega) hbig e d (n := len) (cap := len) (Nat.le_refl _) hlen'.symm
      exact ⟨_, _, μ', .inl (by simp [hrun]), hrel, hrep⟩
    | false =>
      obtain ⟨_, rfl⟩ := Bool.or_eq_false_iff.1 hov
      obtain ⟨hrel, hrep⟩ := row_seq h hrow' hbig e
      rw [hlen'] at hrep
      exact ⟨_, _, μ, .inl (by simp [hrun]), hrel, hrep⟩
  · exact hp.elim

/-! ### make -/
def makeE (T : TT) (m : List (Nat × Option Box)) (d : Nat) (t : Nat) (x y : AV) : Out :=
  match tkind T t with
  | .slice e => match x, y with
    | .raw (.int .i64 n), .raw (.int .i64 n') => ⟨n = n' ∧ 0 ≤ n ∧ n ≤ 1000000 ∧ tknown T t ∧ tknown T e ∧ (tzero T e).refs = [], .sl d (nver m d) 0 n.toNat, [(d, some ⟨tsize T e, List.replicate n.toNat (tzero T e), nver m d, false⟩)]⟩
    | _, _ => bad
  | _ => bad

include hT h in
theorem makeE_good {d t : Nat} {x y : AV} {v u : Value} (hx : Rep w (Yof B.X μ) μ x v) (hy : Rep w (Yof B.X μ) μ y u) (hp : (makeE T s.mem d t x y).pre) :
    Good B w a s ((do pure (.value (← Instr.makeSlice t v u)) : Sem Next).run P w) (makeE T s.mem d t x y) := by
  unfold makeE at *
  split at hp
  · rename_i e hk
    split at hp
    · rename_i n n'
      obtain ⟨rfl, h0, h1, hkn, hke, hzref⟩ := hp
      obtain ⟨rfl, _⟩ := hx.one
      obtain ⟨rfl, _⟩ := hy.one
      obtain ⟨ti, ht, _, hkk, _⟩ := tknown_some hkn
      obtain ⟨te, hte, hze, _, hzz⟩ := tknown_some hke
      have hkt := hT e te hte
      have hpos := hkt.pos
      obtain ⟨dd, hd, hdesc⟩ := (hT t ti ht).desc
      rw [hkk] at hk
      rw [hk] at hdesc
      simp only [TK.desc] at hdesc
      subst hdesc
      obtain ⟨z, hzr, hzc, hz1, hzcells, hzel⟩ := zero_elem hT hte
      obtain ⟨i, z', hi, hsz, hby, _⟩ := hkt.info
      rw [hzz] at hzref
      have hrow : Row w (Yof B.X μ) (if false then μ else Mu.none) te.size (List.replicate n.toNat te.zero) ((Array.range (n.toNat * te.size)).map (z.cells[· % z.cells.size]!)) :=
        zero_row hzc hpos hz1 hkt.width (refs_rep hzref (hzel w (Yof B.X μ) μ))
      obtain ⟨μ', hrel, hrep⟩ := row_box h (var := false) hrow (by omega) (by simp [big]; omega) e d (n := n.toNat) (cap := n.toNat) (Nat.le_refl _) (by simp)
      refine ⟨_, _, μ', .inl ?_, by simpa [hze, hzz] using hrel, hrep⟩
      have hwrap : IntKind.i64.wrap n = n := wrap_in (by simp only [inR]; omega)
      have hbd := hkt.bound
      have hby' : i.bytes ≤ 4096 := by omega
      have hmul : (i.bytes : Int) * n ≤ 4096 * 1000000 := Int.mul_le_mul (by omega) h1 h0 (by omega)
      have hlarge : ¬ (n < 0) := by omega
      have hlarge2 : ¬ (281474976710656 < (i.bytes : Int) * n) := by omega
      by_cases hn0 : n.toNat * te.size = 0
      · have hn : n.toNat = 0 := by
          rcases Nat.mul_eq_zero.1 hn0 with h | h
          · exact h
          · omega
        have hnn : n = 0 := by omega
        subst hnn
        have hw0 : IntKind.i64.wrap 0 = 0 := by decide
        simp [Instr.makeSlice, run_underlying hd, asInt, asIntOf, typeInfo, hi, hw0, hkt.run_size, newRow, show Array.range 0 = #[] from rfl]
      · simp [Instr.makeSlice, run_underlying hd, asInt, asIntOf, typeInfo, hi, hwrap, hlarge, hlarge2, hkt.run_size, newRow, hzr, hn0]
    · exact hp.elim
  · exact hp.elim

end
end Go.Abs
end

section
/- The value layer, part 12: append, conversions, comparisons of structs; all operations. -/
namespace Go.Abs

/-- A part of a list; all of it, if so. -/
def rng (els : List AV) (off len : Nat) : List AV := if off = 0 ∧ len = els.length then els else (els.drop off).take len

theorem rng_eq (els : List AV) (off len : Nat) : rng els off len = (els.drop off).take len := by
  unfold rng
  split
  · rename_i h
    obtain ⟨rfl, rfl⟩ := h
    simp
  · rfl

/-- The elements that a slice has. -/
def elems (m : List (Nat × Option Box)) : AV → Prop × Nat × List AV
  | .seq sz l _ => (True, sz, l)
  | .sl id ver off len => match find m id with
    | some b => (b.ver = ver ∧ b.var = false ∧ off + len ≤ b.els.length, b.sz, rng b.els off len)
    | none => (False, 0, [])
  | _ => (False, 0, [])

/-- The elements that a slice has, and whether they may hold names. -/
def elemsV (m : List (Nat × Option Box)) : AV → Prop × Nat × List AV × Bool
  | .seq sz l _ => (True, sz, l, false)
  | .sl id ver off len => match find m id with
    | some b => (b.ver = ver ∧ off + len ≤ b.els.length, b.sz, rng b.els off len, b.var)
    | none => (False, 0, [], false)
  | _ => (False, 0, [], false)

section
variable {P : Program} {T : TT} (hT : TOK P T) {B : Base} {w : World} {a : Act} {s : St} {μ : Mu} (h : RelM B w a s μ)

include h in
theorem elems_cellsed {x : AV} {v : Value} (hx : Rep w (Yof B.X μ) μ x v) (hp : (elems s.mem x).1) : Cellsed w (Yof B.X μ) Mu.none (elems s.mem x).2.1 (elems s.mem x).2.2 v := by
  unfold elems at *
  split at hp
  · exact hx.seq_cellsed
  · split at hp
    · rename_i b hb
      obtain ⟨hver, hvar, hlen⟩ := hp
      try simp only [hb]
      rw [rng_eq]
      have := sl_cellsed h hb hver hlen hx
      rw [hvar] at this
      exact this
    · exact hp.elim
  · exact hp.elim

include h in
theorem elemsV_cellsed {x : AV} {v : Value} (hx : Rep w (Yof B.X μ) μ x v) (hp : (elemsV s.mem x).1) : Cellsed w (Yof B.X μ) (if (elemsV s.mem x).2.2.2 then μ else Mu.none) (elemsV s.mem x).2.1 (elemsV s.mem x).2.2.1 v := by
  cases x with
  | seq sz l full => exact hx.seq_cellsed
  | sl id ver off len =>
    cases hb : find s.mem id with
    | none => simp only [elemsV, hb] at hp
    | some b =>
      simp only [elemsV, hb] at hp ⊢
      obtain ⟨hver, hlen⟩ := hp
      rw [rng_eq]
      exact sl_cellsed h hb hver hlen hx
  | _ => exact hp.elim

theorem run_append_zeros {t t' ty e : TypeId} {k : IntKind} {i : TypeInfo} (ht : P.underlying t = some (.slice e)) (ht' : P.underlying t' = some (.int k)) (hi : P.info? e = some i) {p : Option Addr} {z : Value} {n : Nat} (hz : i.zero = some z)
    (h0 : 0 < n) (hn : n ≤ 1000000) (hs : 0 < i.size) (hb : i.bytes ≤ 4096) :
    (Builtin.append_ #[t, t'] ty #[.slice p 0 0, .int .i64 n]).run P w =
      .ok (.slice (some ⟨w.heap.size, 0, none⟩) n (grownCap w n 0 e)) (w.drew.alloc (.cells (#[] ++ Builtin.zeroCells z.cells n ++ Builtin.zeroCells z.cells (grownCap w n 0 e - n)) e)) := by
  have hwrap : IntKind.i64.wrap (n : Int) = n := wrap_in (by simp only [inR]; omega)
  have hle : n * i.bytes ≤ 140737488355328 := by
    have := Nat.mul_le_mul hn hb
    omega
  have hfit := growslice_fits (old := 0) h0 hle
  have h48' : ¬ (281474976710656 < Builtin.nextslicecap n 0 * i.bytes) := by omega
  have h48 : ¬ (281474976710656 < (n : Int) * (i.bytes : Int)) := by
    have h2 : ((n * i.bytes : Nat) : Int) ≤ ((140737488355328 : Nat) : Int) := Int.ofNat_le.2 hle
    rw [Int.natCast_mul] at h2
    omega
  have hneg : ¬ ((n : Int) < 0) := by omega
  have h63' : ¬ (9223372036854775807 < (n : Int)) := by omega
  have hns : ¬ (n * i.size = 0) := by
    intro h
    rcases Nat.mul_eq_zero.1 h with h | h <;> omega
  have hn0 : n ≠ 0 := by omega
  have hold : (Builtin.firstCells i.size 0 (.slice p 0 0)).run P w.drew = .ok #[] w.drew := by
    cases p <;> simp [Builtin.firstCells, loadCells, loadCellsFrom]
  simp [Builtin.append_, run_underlying ht, run_underlying ht', sizeOf, typeInfo, zeroValue, asInt, asIntOf, hi, hz, hwrap, hneg, h48, h63', h48', hns, hn0, Question.forced, hold, newRow, grownCap]

def appE (T : TT) (m : List (Nat × Option Box)) (d : Nat) (t t' : Nat) (x y : AV) : Out :=
  match tkind T t with
  | .slice e => match tkind T t' with
    | .slice e' => match x with
      | .sl id ver off len => match find m id with
        | some b => if (b.var || (elemsV m y).2.2.2) = false ∧ off + len < b.els.length ∧ off + len + (elemsV m y).2.2.1.length ≤ b.els.length then
            ⟨(elemsV m y).1 ∧ (elemsV m y).2.1 = tsize T e ∧ b.ver = ver ∧ b.sz = tsize T e ∧ tknown T t ∧ tknown T t' ∧ tknown T e,
              .sl id ver off (len + (elemsV m y).2.2.1.length), [(id, some { b with els := putEls b.els (off + len) (elemsV m y).2.2.1 })]⟩
          else ⟨(elemsV m y).1 ∧ (elemsV m y).2.1 = tsize T e ∧ b.ver = ver ∧ b.sz = tsize T e ∧ off + len ≤ b.els.length ∧ len + (elemsV m y).2.2.1.length ≤ 1073741824 ∧ tknown T t ∧ tknown T t' ∧ tknown T e,
            .sl id (b.ver + 1) 0 (len + (elemsV m y).2.2.1.length), [(id, some ⟨tsize T e, rng b.els off len ++ (elemsV m y).2.2.1, b.ver + 1, b.var || (elemsV m y).2.2.2⟩)]⟩
        | none => bad
      | .seq sz l full => if l.isEmpty || !(elemsV m y).2.2.1.isEmpty then
          ⟨(elemsV m y).1 ∧ (elemsV m y).2.1 = tsize T e ∧ sz = tsize T e ∧ full = true ∧ l.length + (elemsV m y).2.2.1.length ≤ 1073741824 ∧ tknown T t ∧ tknown T t' ∧ tknown T e,
            .sl d (nver m d) 0 (l.length + (elemsV m y).2.2.1.length), [(d, some ⟨tsize T e, l ++ (elemsV m y).2.2.1, nver m d, (elemsV m y).2.2.2⟩)]⟩
        else puts ((elemsV m y).1 ∧ (elemsV m y).2.1 = tsize T e ∧ tknown T t ∧ tknown T t' ∧ tknown T e) (.seq sz l full)
      | _ => bad
    | .int _ => match x, y with
      | .seq _ [] true, .raw (.int .i64 n) => ⟨0 < n ∧ n ≤ 1000000 ∧ tknown T t ∧ tknown T t' ∧ tknown T e ∧ (tzero T e).refs = [], .sl d (nver m d) 0 n.toNat, [(d, some ⟨tsize T e, List.replicate n.toNat (tzero T e), nver m d, false⟩)]⟩
      | _, _ => bad
    | _ => bad
  | _ => bad

include hT h in
theorem appE_good {d t t' : Nat} {x y : AV} {v u : Value} (hx : Rep w (Yof B.X μ) μ x v) (hy : Rep w (Yof B.X μ) μ y u) (hp : (appE T s.mem d t t' x y).pre) (ty : TypeId) :
    Good B w a s ((do pure (.value (← Builtin.append_ #[t, t'] ty #[v, u])) : Sem Next).run P w) (appE T s.mem d t t' x y) := by
  unfold appE at *
  split at hp
  · rename_i e hk
    split at hp
    · rename_i e' hk'
      have key : tknown T t → tknown T t' → tknown T e → ∃ ti ti' tie, T t = some ti ∧ ti.kind = .slice e ∧ T t' = some ti' ∧ ti'.kind = .slice e' ∧ T e = some tie ∧ tsize T e = tie.size := by
        intro h1 h2 h3
        obtain ⟨ti, ht, _, hkk, _⟩ := tknown_some h1
        obtain ⟨ti', ht', _, hkk', _⟩ := tknown_some h2
        obtain ⟨tie, hte, hze, _⟩ := tknown_some h3
        exact ⟨ti, ti', tie, ht, by rw [← hkk]; exact hk, ht', by rw [← hkk']; exact hk', hte, hze⟩
      split at hp
      · rename_i id ver off len
        split at hp
        · rename_i b hb
          by_cases hrm : (b.var || (elemsV s.mem y).2.2.2) = false ∧ off + len < b.els.length ∧ off + len + (elemsV s.mem y).2.2.1.length ≤ b.els.length
          · rw [if_pos hrm] at hp
            obtain ⟨hy1, hy2, hver, hbs, k1, k2, k3⟩ := hp
            obtain ⟨hvv, hrm1⟩ := hrm
            obtain ⟨hvar, hyv⟩ := Bool.or_eq_false_iff.1 hvv
            obtain ⟨ti, ti', tie, ht, htk, ht', htk', hte, hze⟩ := key k1 k2 k3
            have hcy := elemsV_cellsed h hy hy1
            rw [hy2, hze, hyv] at hcy
            obtain ⟨v', w', hrun, hrel, hrep⟩ := append_room hT ht htk ht' htk' hte (ty := ty) h hb hver hvar (by rw [hbs, hze]) hx hcy hrm1.2
            try simp only [hb]
            rw [if_pos ⟨hvv, hrm1⟩]
            exact ⟨w', v', μ, .inl (by simp [hrun]), hrel, hrep⟩
          rw [if_neg hrm] at hp
          obtain ⟨hy1, hy2, hver, hbs, hlen, hbig, k1, k2, k3⟩ := hp
          obtain ⟨ti, ti', tie, ht, htk, ht', htk', hte, hze⟩ := key k1 k2 k3
          have hcy := elemsV_cellsed h hy hy1
          rw [hy2, hze] at hcy
          obtain ⟨v', w', μ', hrun, hrel, hrep⟩ := append_sl hT ht htk ht' htk' hte (ty := ty) h hb hver (var := b.var || (elemsV s.mem y).2.2.2) (fun e => by simp [e]) (by rw [hbs, hze]) hlen hx (hcy.up fun e => by simp [e]) hbig
          have hnv : nver s.mem id = b.ver + 1 := by simp [nver, hb]
          rw [hnv] at hrel hrep
          try simp only [hb]
          rw [if_neg hrm]
          refine ⟨w', v', μ', .inl (by simp [hrun]), ?_, hrep⟩
          rw [rng_eq, hze]
          exact hrel
        · exact hp.elim
      · rename_i sz l full
        split at hp
        · rename_i hcond
          obtain ⟨hy1, hy2, hsz, hfull, hbig, k1, k2, k3⟩ := hp
          obtain ⟨ti, ti', tie, ht, htk, ht', htk', hte, hze⟩ := key k1 k2 k3
          have hcy := elemsV_cellsed h hy hy1
          rw [hy2, hze] at hcy
          have hcx := hx.seq_cellsed (ν := if (elemsV s.mem y).2.2.2 then μ else Mu.none)
          rw [hsz, hze] at hcx
          obtain ⟨p, cap, rfl⟩ := hx.seq_len
          have hcap : cap = l.length := by
            rcases hx.seq_cells with ⟨rfl, p', e⟩ | ⟨b, off, cap', c, el, fr, e, hY, hb, hc, hff, _⟩
            · simp only [Value.slice.injEq] at e; simp [e.2.2]
            · simp only [Value.slice.injEq] at e; rw [e.2.2]; exact hff hfull
          try simp only [hcond, if_true]
          by_cases hne : (elemsV s.mem y).2.2.1 = []
          · have hl : l = [] := by
              rw [hne] at hcond
              simpa using hcond
            subst hl
            have hcap0 : cap = 0 := by simpa using hcap
            subst hcap0
            obtain ⟨dd, hd, hkd⟩ := (hT t ti ht).desc
            rw [htk] at hkd
            simp only [TK.desc] at hkd
            subst hkd
            obtain ⟨dd, hd', hkd⟩ := (hT t' ti' ht').desc
            rw [htk'] at hkd
            simp only [TK.desc] at hkd
            subst hkd
            obtain ⟨i, z, hi, hisz, _⟩ := (hT e tie hte).info
            obtain ⟨cs, hcs, hcsz, _, ⟨q, qc, hq⟩, _⟩ := hcy.first (P := P)
            rw [hne] at hcs hcsz hq
            subst hq
            have hcs0 : cs = #[] := Array.eq_empty_of_size_eq_zero (by simpa using hcsz)
            have hrun := run_append_nothing (P := P) (w := w) (ty := ty) hd hd' hi (p := p) (n := 0) (m := 0) (cap := 0) (by rw [hisz]; exact hcs) hcs0 (by simp)
            have hnb := nil_box h d (tsize T e) (elemsV s.mem y).2.2.2
            refine ⟨w, _, _, .inl (by simp at hrun ⊢; simp [hrun]; rfl), by rw [hne]; simpa using hnb, ?_⟩
            rw [hne]
            exact Rep.slNil (loc := ⟨nver s.mem d, tsize T e, 0, none⟩) (by simp [Mu.upd]) rfl (fun _ _ e => by cases e)
          · have hpos : 0 < (elemsV s.mem y).2.2.1.length := List.length_pos_iff.2 hne
            obtain ⟨v', w', μ', hrun, hrel, hrep⟩ := append_out hT ht htk ht' htk' hte (ty := ty) h d (elemsV s.mem y).2.2.2 hcx hcy (by omega) hbig
            refine ⟨w', v', μ', .inl (by simp [hrun]), ?_, hrep⟩
            rw [hze]
            exact hrel
        · rename_i hcond
          obtain ⟨hy1, hy2, k1, k2, k3⟩ := hp
          obtain ⟨ti, ti', tie, ht, htk, ht', htk', hte, hze⟩ := key k1 k2 k3
          have hcy := elemsV_cellsed h hy hy1
          rw [hy2, hze] at hcy
          have hne : (elemsV s.mem y).2.2.1 = [] := by
            simp only [Bool.or_eq_true, Bool.not_eq_true', not_or, Bool.not_eq_false, List.isEmpty_iff] at hcond
            exact hcond.2
          try simp only [hcond, if_false]
          obtain ⟨p, cap, rfl⟩ := hx.seq_len
          have hcap : l.length ≤ cap := by
            rcases hx.seq_cells with ⟨rfl, p', e⟩ | ⟨b, off, cap', c, el, fr, e, hY, hb, hc, hff, _⟩
            · simp
            · simp only [Value.slice.injEq] at e; rw [e.2.2]; exact hc
          obtain ⟨dd, hd, hkd⟩ := (hT t ti ht).desc
          rw [htk] at hkd
          simp only [TK.desc] at hkd
          subst hkd
          obtain ⟨dd, hd', hkd⟩ := (hT t' ti' ht').desc
          rw [htk'] at hkd
          simp only [TK.desc] at hkd
          subst hkd
          obtain ⟨i, z, hi, hisz, _⟩ := (hT e tie hte).info
          obtain ⟨cs, hcs, hcsz, _, ⟨q, qc, hq⟩, _⟩ := hcy.first (P := P)
          rw [hne] at hcs hcsz hq
          subst hq
          have hcs0 : cs = #[] := Array.eq_empty_of_size_eq_zero (by simpa using hcsz)
          have hrun := run_append_nothing (P := P) (w := w) (ty := ty) hd hd' hi (p := p) (n := l.length) (m := 0) (cap := cap) (by rw [hisz]; exact hcs) hcs0 (by simpa using hcap)
          refine ⟨w, .slice p l.length cap, μ, .inl ?_, h, hx⟩
          simp at hrun ⊢
          simp [hrun]
      · exact hp.elim
    · rename_i k hk'
      split at hp
      · rename_i sz n
        obtain ⟨h0, h1, hkn, hkn', hke, hzref⟩ := hp
        obtain ⟨ti, ht, _, hkk, _⟩ := tknown_some hkn
        obtain ⟨ti', ht', _, hkk', _⟩ := tknown_some hkn'
        obtain ⟨te, hte, hze, _, hzz⟩ := tknown_some hke
        have hkt := hT e te hte
        obtain ⟨dd, hd, hdesc⟩ := (hT t ti ht).desc
        rw [hkk] at hk
        rw [hk] at hdesc
        simp only [TK.desc] at hdesc
        subst hdesc
        obtain ⟨dd, hd', hdesc⟩ := (hT t' ti' ht').desc
        rw [hkk'] at hk'
        rw [hk'] at hdesc
        simp only [TK.desc] at hdesc
        subst hdesc
        obtain ⟨rfl, _⟩ := hy.one
        have hv : ∃ p, v = .slice p 0 0 := by
          rcases hx.seq_cells with ⟨_, p', rfl⟩ | ⟨b, off, cap', c, el, fr, rfl, hY, hb, hc, hff, _⟩
          · exact ⟨_, rfl⟩
          · have := hff rfl
            subst this
            exact ⟨_, rfl⟩
        obtain ⟨p, rfl⟩ := hv
        obtain ⟨i, z, hi, hisz, hib, hz, hzc, hz1, _, _⟩ := hkt.info
        obtain ⟨z', hzr, hzc', hz1', hzcells, hzel⟩ := zero_elem hT hte
        have hzeq : z' = z := by
          have := hzr w
          simp [zeroValue, typeInfo, hi, hz] at this
          exact this.symm
        subst hzeq
        rw [hzz] at hzref
        have hpos := hkt.pos
        have hbd := hkt.bound
        have hn : n = ((n.toNat : Nat) : Int) := by omega
        have hrun := run_append_zeros (P := P) (w := w) (ty := ty) hd hd' hi (p := p) (n := n.toNat) hz (by omega) (by omega) (by omega) (by omega)
        rw [← hn] at hrun
        have hrow : Row w.drew (Yof B.X μ) Mu.none te.size (List.replicate n.toNat te.zero) ((Array.range (n.toNat * te.size)).map (z'.cells[· % z'.cells.size]!)) :=
          zero_row hzc hpos hz1 hkt.width (refs_rep hzref (hzel w.drew (Yof B.X μ) μ))
        have hsame : (Array.range (n.toNat * te.size)).map (z'.cells[· % z'.cells.size]!) = Builtin.zeroCells z'.cells n.toNat := by
          unfold Builtin.zeroCells
          rw [hzc]
        rw [hsame] at hrow
        have hge := grownCap_ge w n.toNat 0 e
        have hzs : (Builtin.zeroCells z'.cells (grownCap w n.toNat 0 e - n.toNat)).size = (grownCap w n.toNat 0 e - n.toNat) * te.size := by rw [size_zeroCells, hzc]
        have hzs0 : (Builtin.zeroCells z'.cells n.toNat).size = n.toNat * te.size := by rw [size_zeroCells, hzc]
        have htot : (#[] ++ Builtin.zeroCells z'.cells n.toNat ++ Builtin.zeroCells z'.cells (grownCap w n.toNat 0 e - n.toNat)).size = grownCap w n.toNat 0 e * te.size := by
          simp only [Array.size_append, hzs, hzs0, List.size_toArray, List.length_nil, Nat.zero_add, ← Nat.add_mul]
          congr 1
          omega
        have hnb := new_box (h.grows (Grows.drew w)) d te.size ([] ++ List.replicate n.toNat te.zero) false (#[] ++ Builtin.zeroCells z'.cells n.toNat ++ Builtin.zeroCells z'.cells (grownCap w n.toNat 0 e - n.toNat)) e
          (by omega) (by simp [big]; omega)
          (by rw [htot]; simp only [List.nil_append, List.length_replicate]; exact Nat.mul_le_mul_right _ hge)
          (one_append (one_append (by intro j hj; simp at hj) hrow.one) (one_zeros (by rw [hzc]; exact hz1) (by omega) _))
          (rep_joined (by simp) (by rw [hzs0]; simp) (fun i hi => by simp at hi) (fun i hi => ⟨(hrow.rep i hi).1, (hrow.rep i hi).2⟩))
        have hsl := Rep.sl (w := w.drew.alloc (.cells (#[] ++ Builtin.zeroCells z'.cells n.toNat ++ Builtin.zeroCells z'.cells (grownCap w n.toNat 0 e - n.toNat)) e))
          (Y := Yof B.X (μ.upd d ⟨nver s.mem d, te.size, 0, some (w.drew.heap.size, (#[] ++ Builtin.zeroCells z'.cells n.toNat ++ Builtin.zeroCells z'.cells (grownCap w n.toNat 0 e - n.toNat)).size)⟩))
          (μ := μ.upd d ⟨nver s.mem d, te.size, 0, some (w.drew.heap.size, (#[] ++ Builtin.zeroCells z'.cells n.toNat ++ Builtin.zeroCells z'.cells (grownCap w n.toNat 0 e - n.toNat)).size)⟩)
          (id := d) (ver := nver s.mem d) (off := 0) (len := n.toNat) (cap := grownCap w n.toNat 0 e)
          (loc := ⟨nver s.mem d, te.size, 0, some (w.drew.heap.size, (#[] ++ Builtin.zeroCells z'.cells n.toNat ++ Builtin.zeroCells z'.cells (grownCap w n.toNat 0 e - n.toNat)).size)⟩)
          (by simp [Mu.upd]) rfl rfl hge (by simp only [Nat.zero_add]; rw [htot]) (by show te.size ≠ 0; omega)
        refine ⟨_, _, _, .inl ?_, by simpa [hze, hzz] using hnb, by simpa using hsl⟩
        rw [Sem.run_bind, hrun]
        simp
      · exact hp.elim
    · exact hp.elim
  · exact hp.elim

/-! ### conversions between integers -/
def convE (T : TT) (src dst : Nat) (x : AV) : Out :=
  match x with
  | .raw (.int _ n) => match tkind T src with
    | .int _ => match tkind T dst with
      | .int k => puts (tknown T src ∧ tknown T dst) (.raw (.int k (k.wrap n)))
      | _ => bad
    | _ => bad
  | _ => bad

include hT h in
theorem convE_good {src dst : Nat} {x : AV} {v : Value} (hx : Rep w (Yof B.X μ) μ x v) (hp : (convE T src dst x).pre) :
    Good B w a s ((do pure (.value (← convert src dst v)) : Sem Next).run P w) (convE T src dst x) := by
  unfold convE at *
  split at hp
  · rename_i k0 n
    obtain ⟨rfl, _⟩ := hx.one
    split at hp
    · rename_i ks hks
      split at hp
      · rename_i k hk
        obtain ⟨h1, h2⟩ := hp
        obtain ⟨ti, ht, _, hkk, _⟩ := tknown_some h1
        obtain ⟨td, htd, _, hkd, _⟩ := tknown_some h2
        obtain ⟨d1, hd1, hdesc1⟩ := (hT src ti ht).desc
        obtain ⟨d2, hd2, hdesc2⟩ := (hT dst td htd).desc
        rw [hkk] at hks
        rw [hks] at hdesc1
        rw [hkd] at hk
        rw [hk] at hdesc2
        simp only [TK.desc] at hdesc1 hdesc2
        subst hdesc1 hdesc2
        exact ⟨w, .int k (k.wrap n), μ, .inl (by simp [convert, run_underlying hd1, run_underlying hd2, Conv.intToInt]), h, .raw rfl⟩
      · exact hp.elim
    · exact hp.elim
  · exact hp.elim

/-! ### comparisons of bools and structs -/
def avEq : AV → AV → Option Bool
  | .raw (.int k a), .raw (.int k' b) => if k = k' then some (decide (a = b)) else none
  | .raw (.bool a), .raw (.bool b) => some (a == b)
  | _, _ => none
def avsEq : List AV → List AV → Option Bool
  | [], [] => some true
  | x :: xs, y :: ys => match avEq x y with
    | some a => match avsEq xs ys with
      | some b => some (a && b)
      | none => none
    | none => none
  | _, _ => none

theorem avEq_spec {x y : AV} {b : Bool} (hb : avEq x y = some b) {v u : Value} (hx : Rep w (Yof B.X μ) μ x v) (hy : Rep w (Yof B.X μ) μ y u) : vEq v u = some b := by
  unfold avEq at hb
  split at hb
  · obtain ⟨rfl, _⟩ := hx.one
    obtain ⟨rfl, _⟩ := hy.one
    exact hb
  · obtain ⟨rfl, _⟩ := hx.one
    obtain ⟨rfl, _⟩ := hy.one
    exact hb
  · cases hb

theorem avsEq_spec : ∀ {xs ys : List AV} {b : Bool}, avsEq xs ys = some b → ∀ {vs us : List Value}, vs.length = xs.length → us.length = ys.length →
    (∀ i, i < xs.length → Rep w (Yof B.X μ) μ (xs.getD i .junk) (vs.getD i undef)) → (∀ i, i < ys.length → Rep w (Yof B.X μ) μ (ys.getD i .junk) (us.getD i undef)) → vsEq vs us = some b
  | [], [], b, h, vs, us, h1, h2, _, _ => by
    simp at h1 h2; subst h1 h2; exact h
  | x :: xs, y :: ys, b, h, v :: vs, u :: us, h1, h2, h3, h4 => by
    simp only [avsEq] at h
    cases hxy : avEq x y with
    | none => rw [hxy] at h; cases h
    | some c =>
      rw [hxy] at h
      cases hr : avsEq xs ys with
      | none => rw [hr] at h; cases h
      | some d =>
        rw [hr] at h
        have e1 := avEq_spec (w := w) (B := B) (μ := μ) hxy (v := v) (u := u) (by simpa using h3 0 (by simp)) (by simpa using h4 0 (by simp))
        have e2 := avsEq_spec (vs := vs) (us := us) hr (by simpa using h1) (by simpa using h2) (fun i hi => by simpa using h3 (i + 1) (by simpa using hi)) (fun i hi => by simpa using h4 (i + 1) (by simpa using hi))
        simp only [vsEq, e1, e2]
        exact h
  | [], _ :: _, b, h, _, _, _, _, _, _ => by simp [avsEq] at h
  | _ :: _, [], b, h, _, _, _, _, _, _ => by simp [avsEq] at h
  | _ :: _, _, b, h, [], _, h1, _, _, _ => by simp at h1
  | _, _ :: _, b, h, _, [], _, h2, _, _ => by simp at h2

theorem avsEq_kinds : ∀ {xs ys : List AV} {b : Bool}, avsEq xs ys = some b → ∀ {vs : List Value}, vs.length = xs.length →
    (∀ i, i < xs.length → Rep w (Yof B.X μ) μ (xs.getD i .junk) (vs.getD i undef)) → vs.map vkind = xs.map akind
  | [], ys, b, h, vs, h1, _ => by
    simp at h1; subst h1; rfl
  | x :: xs, y :: ys, b, h, v :: vs, h1, h3 => by
    simp only [avsEq] at h
    cases hxy : avEq x y with
    | none => rw [hxy] at h; cases h
    | some c =>
      rw [hxy] at h
      cases hr : avsEq xs ys with
      | none => rw [hr] at h; cases h
      | some d =>
        have e1 : vkind v = akind x := by
          have h0 := h3 0 (by simp)
          simp only [List.getD_cons_zero] at h0
          cases x with
          | raw u => obtain ⟨rfl, _⟩ := h0.one; rfl
          | _ => simp [avEq] at hxy
        have e2 := avsEq_kinds (vs := vs) hr (by simpa using h1) (fun i hi => by simpa using h3 (i + 1) (by simpa using hi))
        simp only [List.map_cons, e1, e2]
  | _ :: _, [], b, h, _, _, _ => by simp [avsEq] at h
  | _ :: _, _, b, h, [], h1, _ => by simp at h1

def teq (T : TT) (t : Nat) : Bool := match T t with | some ti => ti.eq | none => false

/-- A type of slices. -/
def slTy (T : TT) (t : Nat) : Bool := match tkind T t with | .slice _ => true | _ => false
def cmpE (T : TT) (op : BinOp) (t : Nat) (x y : AV) : Out :=
  match x, y with
  | .raw (.bool a), .raw (.bool b) => match op with
    | .eql => puts (tknown T t ∧ tkind T t = .bool) (.raw (.bool (a == b)))
    | .neq => puts (tknown T t ∧ tkind T t = .bool) (.raw (.bool (!(a == b))))
    | _ => bad
  | .agg l, .agg l' => match avsEq l l' with
    | some b => match op with
      | .eql => puts (tknown T t ∧ teq T t = true ∧ l.map akind = (cellsOf (tzero T t)).map akind) (.raw (.bool b))
      | .neq => puts (tknown T t ∧ teq T t = true ∧ l.map akind = (cellsOf (tzero T t)).map akind) (.raw (.bool (!b)))
      | _ => bad
    | none => bad
  | .raw (.slice none 0 0), .raw (.slice none 0 0) => match op with
    | .eql => puts (tknown T t ∧ slTy T t = true) (.raw (.bool true))
    | .neq => puts (tknown T t ∧ slTy T t = true) (.raw (.bool false))
    | _ => bad
  | .seq _ l _, .raw (.slice none 0 0) => match op with
    | .eql => puts (tknown T t ∧ slTy T t = true ∧ l ≠ []) (.raw (.bool false))
    | .neq => puts (tknown T t ∧ slTy T t = true ∧ l ≠ []) (.raw (.bool true))
    | _ => bad
  | x, y => binE op x y
omit hT h in
theorem run_equalIn_nil0 {t e : Nat} (hu : P.underlying t = some (.slice e)) (d : Nat) (p : Option Addr) (n cap : Nat) (w : World) : (Op.equalIn (d + 1) t (.slice p n cap) (.slice none 0 0)).run P w = .ok p.isNone w := by
  cases p <;> simp [Op.equalIn, run_underlying hu]

include hT h in
theorem cmpE_good {op : BinOp} {t : Nat} {ox oy : Operand} {x y : AV} {v u : Value} (hx : Rep w (Yof B.X μ) μ x v) (hy : Rep w (Yof B.X μ) μ y u) (hp : (cmpE T op t x y).pre) :
    Good B w a s ((do let r ← (do eqGuard op t ox oy v u; binOp op t v u : Sem Value); pure (.value r) : Sem Next).run P w) (cmpE T op t x y) := by
  unfold cmpE at *
  split at hp
  · rename_i p q
    obtain ⟨rfl, _⟩ := hx.one
    obtain ⟨rfl, _⟩ := hy.one
    have key : tknown T t ∧ tkind T t = .bool → P.underlying t = some .bool := by
      rintro ⟨h1, h2⟩
      obtain ⟨ti, ht, _, hkk, _⟩ := tknown_some h1
      obtain ⟨d, hd, hdesc⟩ := (hT t ti ht).desc
      rw [hkk] at h2
      rw [h2] at hdesc
      simp only [TK.desc] at hdesc
      subst hdesc
      exact hd
    split at hp
    · have hu := key hp
      exact ⟨w, .bool (p == q), μ, .inl (by simp [eqGuard, run_eql_bool w t p q hu]), h, .raw rfl⟩
    · have hu := key hp
      exact ⟨w, .bool (!(p == q)), μ, .inl (by simp [eqGuard, run_neq_bool w t p q hu]), h, .raw rfl⟩
    · exact hp.elim
  · rename_i l l'
    split at hp
    · rename_i b heq
      cases hx with
      | agg hs h1 hh =>
        rename_i cs
        cases hy with
        | agg hs' h1' hh' =>
          rename_i cs'
          have hv := avsEq_spec (w := w) (B := B) (μ := μ) heq (vs := cs.toList) (us := cs'.toList) (by simpa using hs) (by simpa using hs')
            (fun i hi => by have := hh i hi; simpa [Array.getD_eq_getD_getElem?, List.getD_eq_getElem?_getD] using this)
            (fun i hi => by have := hh' i hi; simpa [Array.getD_eq_getD_getElem?, List.getD_eq_getElem?_getD] using this)
          have hkd := avsEq_kinds (w := w) (B := B) (μ := μ) heq (vs := cs.toList) (by simpa using hs)
            (fun i hi => by have := hh i hi; simpa [Array.getD_eq_getD_getElem?, List.getD_eq_getElem?_getD] using this)
          have key : tknown T t ∧ teq T t = true ∧ l.map akind = (cellsOf (tzero T t)).map akind → ∃ ti, T t = some ti ∧ ti.eq = true ∧ cs.toList.map vkind = (cellsOf ti.zero).map akind := by
            rintro ⟨k1, k2, k3⟩
            obtain ⟨ti, ht, hz, _⟩ := tknown_some k1
            have k2' : ti.eq = true := by simpa [teq, ht] using k2
            have k4 : tzero T t = ti.zero := by simp [tzero, ht]
            exact ⟨ti, ht, k2', by rw [hkd, k3, k4]⟩
          split at hp
          · obtain ⟨ti, ht, k2, k3⟩ := key hp
            have hr := ((hT t ti ht).eqr k2 cs cs' b ox oy w k3 hv).1
            exact ⟨w, .bool b, μ, .inl (by rw [Sem.run_bind, hr]; rfl), h, .raw rfl⟩
          · obtain ⟨ti, ht, k2, k3⟩ := key hp
            have hr := ((hT t ti ht).eqr k2 cs cs' b ox oy w k3 hv).2
            exact ⟨w, .bool (!b), μ, .inl (by rw [Sem.run_bind, hr]; rfl), h, .raw rfl⟩
          · exact hp.elim
    · exact hp.elim
  · obtain ⟨rfl, _⟩ := hx.one
    obtain ⟨rfl, _⟩ := hy.one
    have key : tknown T t ∧ slTy T t = true → ∃ e, P.underlying t = some (.slice e) := by
      rintro ⟨h1, h2⟩
      obtain ⟨ti, ht, _, hkk, _⟩ := tknown_some h1
      obtain ⟨d, hd, hdesc⟩ := (hT t ti ht).desc
      unfold slTy at h2
      split at h2
      · rename_i e hk
        rw [hk] at hkk
        rw [← hkk] at hdesc
        simp only [TK.desc] at hdesc
        subst hdesc
        exact ⟨e, hd⟩
      · cases h2
    split at hp
    · obtain ⟨e, hu⟩ := key hp
      have heq : (Op.equal t (.slice none 0 0) (.slice none 0 0)).run P w = .ok true w := run_equalIn_nil0 hu 9999 none 0 0 w
      exact ⟨w, .bool true, μ, .inl (by simp [eqGuard, binOp, heq]), h, .raw rfl⟩
    · obtain ⟨e, hu⟩ := key hp
      have heq : (Op.equal t (.slice none 0 0) (.slice none 0 0)).run P w = .ok true w := run_equalIn_nil0 hu 9999 none 0 0 w
      exact ⟨w, .bool false, μ, .inl (by simp [eqGuard, binOp, heq]), h, .raw rfl⟩
    · exact hp.elim
  · rename_i l _
    obtain ⟨rfl, _⟩ := hy.one
    have key : tknown T t ∧ slTy T t = true → ∃ e, P.underlying t = some (.slice e) := by
      rintro ⟨h1, h2⟩
      obtain ⟨ti, ht, _, hkk, _⟩ := tknown_some h1
      obtain ⟨d, hd, hdesc⟩ := (hT t ti ht).desc
      unfold slTy at h2
      split at h2
      · rename_i e hk
        rw [hk] at hkk
        rw [← hkk] at hdesc
        simp only [TK.desc] at hdesc
        subst hdesc
        exact ⟨e, hd⟩
      · cases h2
    have hv : l ≠ [] → ∃ p n cap, v = .slice (some p) n cap := by
      intro hl
      cases hx with
      | nil => exact absurd rfl hl
      | seq => exact ⟨_, _, _, rfl⟩
    split at hp
    · obtain ⟨e, hu⟩ := key ⟨hp.1, hp.2.1⟩
      obtain ⟨p, n, cap, rfl⟩ := hv hp.2.2
      have heq : (Op.equal t (.slice (some p) n cap) (.slice none 0 0)).run P w = .ok false w := run_equalIn_nil0 hu 9999 (some p) n cap w
      exact ⟨w, .bool false, μ, .inl (by simp [eqGuard, binOp, heq]), h, .raw rfl⟩
    · obtain ⟨e, hu⟩ := key ⟨hp.1, hp.2.1⟩
      obtain ⟨p, n, cap, rfl⟩ := hv hp.2.2
      have heq : (Op.equal t (.slice (some p) n cap) (.slice none 0 0)).run P w = .ok false w := run_equalIn_nil0 hu 9999 (some p) n cap w
      exact ⟨w, .bool true, μ, .inl (by simp [eqGuard, binOp, heq]), h, .raw rfl⟩
    · exact hp.elim
  · exact binE_good h hx hy hp

end
end Go.Abs
end

section
/- The value layer, part 31 (between 12 and 13): clear; maps; bytes as a string. -/
namespace Go.Abs

section
variable {P : Program} {T : TT} (hT : TOK P T) {B : Base} {w : World} {a : Act} {s : St} {μ : Mu} (h : RelM B w a s μ)

include h in
/-- A row of cells is stored into a slice of a box. -/
theorem store_row {id ver off len : Nat} {b : Box} (hb : find s.mem id = some b) (hver : b.ver = ver) (hvar : b.var = false) (hlen : off + len ≤ b.els.length) {v : Value} (hv : Rep w (Yof B.X μ) μ (.sl id ver off len) v)
    {ys : List AV} {cs : Array Value} (hr : Row w (Yof B.X μ) Mu.none b.sz ys cs) (hys : ys.length ≤ len) (hpos : 0 < len) :
    ∃ g o cap w', v = .slice (some ⟨g, o, none⟩) len cap ∧ (storeCells ⟨g, o, none⟩ cs.toList).run P w = .ok () w' ∧ RelM B w' a ⟨s.env, (id, some { b with els := putEls b.els off ys }) :: s.mem⟩ μ := by
  obtain ⟨l, hm, hlv, hs, hh⟩ := h.inv.box id b hb
  cases hv with
  | slOld hm' hv' => rw [hm] at hm'; cases hm'; omega
  | slNil hm' hv' hnf => omega
  | sl hm' hv' hbk hc hfit hz =>
    rename_i cap loc g n
    rw [hm] at hm'; cases hm'
    obtain ⟨lv, lsz, l0, lb⟩ := l
    simp only at hlv hs hbk hv' hfit hz
    subst hlv hs hbk
    obtain ⟨hbig, hcell, _⟩ := hh
    obtain ⟨c, el, hw, hcs, hn, h1, hre⟩ := hcell hz
    simp only at hn hre
    have hsize := hr.size
    have e0 : (off + len) * b.sz ≤ b.els.length * b.sz := Nat.mul_le_mul_right _ hlen
    rw [Nat.add_mul] at e0
    have e1 : ys.length * b.sz ≤ len * b.sz := Nat.mul_le_mul_right _ hys
    have hfit2 : l0 + off * b.sz + cs.size ≤ c.size := by omega
    have hrun := run_storeCells_at P g (l0 + off * b.sz) el cs.toList 0 c w hw (by simpa using hfit2) (one_of_getD hr.one)
    simp only [Nat.add_zero, Array.length_toList] at hrun
    have hg' := setRow_heap w g c (c.toList.take (l0 + off * b.sz) ++ cs.toList ++ c.toList.drop (l0 + off * b.sz + cs.size)).toArray el (0, 0) hw
    have hsz : (c.toList.take (l0 + off * b.sz) ++ cs.toList ++ c.toList.drop (l0 + off * b.sz + cs.size)).toArray.size = c.size := by
      have := splice_size c (l0 + off * b.sz) cs.toList (by simpa using hfit2)
      simpa using this
    have hget := splice_get c (l0 + off * b.sz) cs hfit2
    generalize hC : (c.toList.take (l0 + off * b.sz) ++ cs.toList ++ c.toList.drop (l0 + off * b.sz + cs.size)).toArray = C at hrun hg' hsz hget
    have hlen2 := putEls_length (els := b.els) (ys := ys) (o := off) (by omega)
    refine ⟨g, l0 + off * b.sz, cap, w.setRow g C, rfl, hrun, ?_⟩
    have := RelM.rebox (w' := w.setRow g C) h id { b with els := putEls b.els off ys } ⟨b.ver, b.sz, l0, some (g, n)⟩ rfl rfl (later_same hm) (.inl hm) ⟨⟨rfl, Nat.le_refl _⟩, rfl, rfl⟩ (by simp)
      (fun g' _ hno => setRow_other w g g' _ (fun e => hno _ n hm (by rw [e]))) (fun g' n' hb' => .inl ⟨_, n', hm, hb'⟩) ?_
    · rw [upd_same hm] at this
      exact this
    · rw [upd_same hm]
      have hkeep : ∀ q, ¬ Yof B.X μ q → q < w.heap.size → ¬ Yof B.X μ q ∧ (w.setRow g C).heap[q]? = w.heap[q]? :=
        fun b' hy _ => ⟨hy, setRow_other w g b' _ (fun e => hy (.inr ⟨id, _, n, hm, by rw [e]⟩))⟩
      unfold Holds
      refine ⟨by show (putEls b.els off ys).length ≤ big; rw [hlen2]; exact hbig, fun _ => ⟨C, el, hg', hsz.trans hcs, by show l0 + (putEls b.els off ys).length * b.sz ≤ n; rw [hlen2]; exact hn, ?_, ?_⟩, fun h0 => absurd h0 hz⟩
      · intro j hj
        rw [hget j (by omega)]
        split
        · exact hr.one _ (by omega)
        · exact h1 j hj
      · intro i hi
        dsimp only at hi ⊢
        rw [hlen2] at hi
        have hfi := mul_lt_of_fit hi (Nat.le_refl (b.els.length * b.sz))
        simp only [hvar, Bool.false_eq_true, if_false]
        rw [putEls_get (by omega) hi]
        by_cases hin : off ≤ i ∧ i < off + ys.length
        · rw [if_pos hin]
          have hk := hr.rep (i - off) (by omega)
          refine ⟨hk.1, ?_⟩
          have hfk := mul_lt_of_fit (show i - off < ys.length by omega) (Nat.le_refl (ys.length * b.sz))
          have hea : i * b.sz = off * b.sz + (i - off) * b.sz := by rw [← Nat.add_mul]; congr 1; omega
          have := hk.2.mono hkeep (Mu.later.refl _)
          rw [elemVal_congr hk.1 (c' := C) (o' := l0 + i * b.sz) (by omega) (by omega) (fun j hj => ?_)] at this
          · exact this
          · rw [hget _ (by omega), if_pos (by omega)]
            congr 1
            omega
        · rw [if_neg hin]
          have hk := hre i hi
          rw [hvar] at hk
          simp only [Bool.false_eq_true, if_false] at hk
          refine ⟨hk.1, ?_⟩
          have hap : i * b.sz + b.sz ≤ off * b.sz ∨ off * b.sz + ys.length * b.sz ≤ i * b.sz := by
            by_cases hlt : i < off
            · exact .inl (mul_lt_of_fit hlt (Nat.le_refl _))
            · refine .inr ?_
              rw [← Nat.add_mul]
              exact Nat.mul_le_mul_right _ (by omega)
          have := hk.2.mono hkeep (Mu.later.refl _)
          rw [elemVal_congr hk.1 (c' := C) (o' := l0 + i * b.sz) (by omega) (by omega) (fun j hj => ?_)] at this
          · exact this
          · rw [hget _ (by omega), if_neg (by omega)]

/-! ### clear -/
def clearE (T : TT) (m : List (Nat × Option Box)) (t : Nat) (x : AV) : Out :=
  match tkind T t with
  | .slice e => match x with
    | .sl id ver off len => match find m id with
      | some b => ⟨tknown T t ∧ tknown T e ∧ b.ver = ver ∧ b.var = false ∧ off + len ≤ b.els.length ∧ b.sz = tsize T e ∧ (tzero T e).refs = [], .junk, [(id, some { b with els := putEls b.els off (List.replicate len (tzero T e)) })]⟩
      | none => bad
    | _ => bad
  | _ => bad

omit h in
theorem run_clear_none {t e : TypeId} (hd : P.underlying t = some (.slice e)) (p : Option Addr) (cap : Nat) (ty : TypeId) (w : World) : (Builtin.clear_ #[t] ty #[.slice p 0 cap]).run P w = .ok (.tuple #[]) w := by
  cases p <;> simp [Builtin.clear_, run_underlying hd]
omit h in
theorem run_clear_some {t e : TypeId} (hd : P.underlying t = some (.slice e)) {z : Value} (hz : ∀ w, (zeroValue e).run P w = .ok z w) (q : Addr) (n cap : Nat) (ty : TypeId) {w w' : World}
    (hs : (storeCells q (Builtin.zeroCells z.cells (n + 1)).toList).run P w = .ok () w') : (Builtin.clear_ #[t] ty #[.slice (some q) (n + 1) cap]).run P w = .ok (.tuple #[]) w' := by
  simp [Builtin.clear_, run_underlying hd, hz, hs]

include hT h in
theorem clearE_good {t : Nat} {x : AV} {v : Value} (hx : Rep w (Yof B.X μ) μ x v) (hp : (clearE T s.mem t x).pre) (ty : TypeId) :
    Good B w a s ((do pure (.value (← Builtin.clear_ #[t] ty #[v])) : Sem Next).run P w) (clearE T s.mem t x) := by
  unfold clearE at *
  split at hp
  · rename_i e hk
    split at hp
    · rename_i id ver off len
      split at hp
      · rename_i b hb
        obtain ⟨hkn, hke, hver, hvar, hlen, hsz, hzref⟩ := hp
        obtain ⟨ti, ht, _, hkk, _⟩ := tknown_some hkn
        obtain ⟨te, hte, hze, _, hzz⟩ := tknown_some hke
        have hkt := hT e te hte
        have hpos := hkt.pos
        obtain ⟨dd, hd, hdesc⟩ := (hT t ti ht).desc
        rw [hkk] at hk
        rw [hk] at hdesc
        simp only [TK.desc] at hdesc
        subst hdesc
        try simp only [hb]
        by_cases h0 : len = 0
        · subst h0
          have hv : ∃ p cap, v = .slice p 0 cap := by
            obtain ⟨l, hm, hlv, _⟩ := h.inv.box id b hb
            cases hx with
            | slOld hm' hv' => rw [hm] at hm'; cases hm'; omega
            | slNil hm' hv' hnf => exact ⟨_, _, rfl⟩
            | sl hm' hv' hbk hc hfit hz => exact ⟨_, _, rfl⟩
          obtain ⟨p, cap, rfl⟩ := hv
          refine ⟨w, .tuple #[], μ, .inl ?_, ?_, .junk⟩
          · rw [Sem.run_bind, run_clear_none hd]; rfl
          · simp only [List.replicate_zero, putEls_nil]
            exact relM_readd h hb
        · obtain ⟨z, hzr, hzc, hz1, hzcells, hzel⟩ := zero_elem hT hte
          rw [hzz] at hzref
          have hrow : Row w (Yof B.X μ) Mu.none te.size (List.replicate len te.zero) ((Array.range (len * te.size)).map (z.cells[· % z.cells.size]!)) :=
            zero_row hzc hpos hz1 hkt.width (refs_rep hzref (hzel w (Yof B.X μ) μ))
          have hsame : (Array.range (len * te.size)).map (z.cells[· % z.cells.size]!) = Builtin.zeroCells z.cells len := by
            unfold Builtin.zeroCells
            rw [hzc]
          rw [hsame, ← hze, ← hsz] at hrow
          obtain ⟨g, o, cap, w', rfl, hrun, hrel⟩ := store_row (P := P) h hb hver hvar hlen hx hrow (by simp) (by omega)
          obtain ⟨n, rfl⟩ : ∃ n, len = n + 1 := ⟨len - 1, by omega⟩
          refine ⟨w', .tuple #[], μ, .inl ?_, ?_, .junk⟩
          · rw [Sem.run_bind, run_clear_some hd hzr _ _ _ _ hrun]; rfl
          · rw [hzz]; exact hrel
      · exact hp.elim
    · exact hp.elim
  · exact hp.elim

/-! ### copy -/
theorem Cellsed.firstN {P : Program} {w : World} {Y : Nat → Prop} {sz : Nat} {l : List AV} {v : Value} (h : Cellsed w Y Mu.none sz l v) (n : Nat) (hn : n ≤ l.length) :
    ∃ cs : Array Value, (Builtin.firstCells sz n v).run P w = .ok cs w ∧ Row w Y Mu.none sz (l.take n) cs ∧ ∃ p cap, v = .slice p l.length cap := by
  have hlen : (l.take n).length = n := by simp; omega
  rcases h.out with ⟨rfl, p, cap, rfl⟩ | ⟨b, off, cap, c, el, fr, rfl, hw, hfit, h1, hr⟩
  · have : n = 0 := by simpa using hn
    subst this
    refine ⟨#[], ?_, ⟨by simp, by simp, by simp⟩, ⟨_, _, rfl⟩⟩
    cases p <;> simp [Builtin.firstCells, loadCells, loadCellsFrom]
  · have hle := Nat.mul_le_mul_right sz hn
    have hfit' : off + n * sz ≤ c.size := by omega
    have hsz : (c.extract off (off + n * sz)).size = n * sz := by simp; omega
    refine ⟨c.extract off (off + n * sz), by simp [Builtin.firstCells, run_loadCells_at hw hfit'], ⟨by rw [hsz, hlen], ?_, fun i hi => ?_⟩, ⟨_, _, rfl⟩⟩
    · intro j hj
      rw [hsz] at hj
      have : (c.extract off (off + n * sz)).getD j undef = c.getD (off + j) undef := by
        simp only [Array.getD_eq_getD_getElem?]
        rw [Array.getElem?_extract, if_pos (by omega)]
      rw [this]
      exact h1 _ (by omega) (by omega)
    · rw [hlen] at hi
      have hg : (l.take n).getD i .junk = l.getD i .junk := by simp [List.getD_eq_getElem?_getD, List.getElem?_take, hi]
      rw [hg]
      refine ⟨(hr i (by omega)).1, ?_⟩
      have hfi := mul_lt_of_fit hi (Nat.le_refl (n * sz))
      have hwid := (hr i (by omega)).1
      have hrep := (hr i (by omega)).2
      have hat : ∀ j, j < sz → (c.extract off (off + n * sz)).getD (i * sz + j) undef = c.getD (off + i * sz + j) undef := by
        intro j hj
        simp only [Array.getD_eq_getD_getElem?]
        rw [Array.getElem?_extract, if_pos (by omega)]
        congr 2
        omega
      rw [elemVal_congr hwid (c' := c) (o' := off + i * sz) (by omega) (by omega) hat]
      exact hrep

def copyE (T : TT) (m : List (Nat × Option Box)) (t : Nat) (x y : AV) : Out :=
  match tkind T t with
  | .slice e => match x with
    | .sl id ver off len => match find m id with
      | some b => ⟨tknown T t ∧ tknown T e ∧ b.ver = ver ∧ b.var = false ∧ off + len ≤ b.els.length ∧ b.sz = tsize T e ∧ (elems m y).1 ∧ (elems m y).2.1 = tsize T e,
          .raw (.int .i64 (min (elems m y).2.2.length len : Nat)), [(id, some { b with els := putEls b.els off ((elems m y).2.2.take len) })]⟩
      | none => bad
    | _ => bad
  | _ => bad

omit h in
theorem run_copy_out {t t' e : TypeId} {i : TypeInfo} (hd : P.underlying t = some (.slice e)) (hi : P.info? e = some i) (d : Option Addr) (dLen dCap : Nat) (p : Option Addr) (sLen sCap : Nat) {cs : Array Value} {w w' : World}
    (hc : (Builtin.firstCells i.size (min sLen dLen) (.slice p sLen sCap)).run P w = .ok cs w) (hs : ∀ q, d = some q → (storeCells q cs.toList).run P w = .ok () w') (hn : d = none → w' = w) (ty : TypeId) :
    (Builtin.copy_ #[t, t'] ty #[.slice d dLen dCap, .slice p sLen sCap]).run P w = .ok (goInt (min sLen dLen : Nat)) w' := by
  cases d with
  | none =>
    have := hn rfl
    subst this
    simp [Builtin.copy_, run_underlying hd, Builtin.lenOf, sizeOf, typeInfo, hi, Nat.min_def ▸ hc, hc]
  | some q => simp [Builtin.copy_, run_underlying hd, Builtin.lenOf, sizeOf, typeInfo, hi, hc, hs q rfl]

include hT h in
theorem copyE_good {t t' : Nat} {x y : AV} {v u : Value} (hx : Rep w (Yof B.X μ) μ x v) (hy : Rep w (Yof B.X μ) μ y u) (hp : (copyE T s.mem t x y).pre) (ty : TypeId) :
    Good B w a s ((do pure (.value (← Builtin.copy_ #[t, t'] ty #[v, u])) : Sem Next).run P w) (copyE T s.mem t x y) := by
  unfold copyE at *
  split at hp
  · rename_i e hk
    split at hp
    · rename_i id ver off len
      split at hp
      · rename_i b hb
        obtain ⟨hkn, hke, hver, hvar, hlen, hsz, hy1, hy2⟩ := hp
        obtain ⟨ti, ht, _, hkk, _⟩ := tknown_some hkn
        obtain ⟨te, hte, hze, _⟩ := tknown_some hke
        obtain ⟨dd, hd, hdesc⟩ := (hT t ti ht).desc
        rw [hkk] at hk
        rw [hk] at hdesc
        simp only [TK.desc] at hdesc
        subst hdesc
        obtain ⟨i, z, hi, hisz, _⟩ := (hT e te hte).info
        try simp only [hb]
        have hcy := elems_cellsed h hy hy1
        generalize hl : (elems s.mem y).2.2 = l at hcy ⊢
        obtain ⟨cs, hcs, hrow, p, cap, rfl⟩ := hcy.firstN (P := P) (min l.length len) (Nat.min_le_left _ _)
        rw [hy2, hze, ← hisz] at hcs
        have htk : l.take (min l.length len) = l.take len := by
          rcases Nat.le_total l.length len with h1 | h1
          · rw [Nat.min_eq_left h1, List.take_of_length_le (Nat.le_refl _), List.take_of_length_le h1]
          · rw [Nat.min_eq_right h1]
        rw [htk, hy2, ← hsz] at hrow
        by_cases h0 : len = 0
        · subst h0
          have hv : ∃ p cap, v = .slice p 0 cap := by
            obtain ⟨l, hm, hlv, _⟩ := h.inv.box id b hb
            cases hx with
            | slOld hm' hv' => rw [hm] at hm'; cases hm'; omega
            | slNil hm' hv' hnf => exact ⟨_, _, rfl⟩
            | sl hm' hv' hbk hc hfit hz => exact ⟨_, _, rfl⟩
          obtain ⟨q, qc, rfl⟩ := hv
          have hcs0 : cs = #[] := Array.eq_empty_of_size_eq_zero (by simpa using hrow.size)
          subst hcs0
          refine ⟨w, .int .i64 (min l.length 0 : Nat), μ, .inl ?_, ?_, .raw rfl⟩
          · rw [Sem.run_bind, run_copy_out (P := P) hd hi q 0 qc p l.length cap hcs (fun _ _ => rfl) (fun _ => rfl)]; rfl
          · simp only [List.take_zero, putEls_nil]
            exact relM_readd h hb
        · obtain ⟨g, o, qc, w', rfl, hrun, hrel⟩ := store_row (P := P) h hb hver hvar hlen hx hrow (by simp; omega) (by omega)
          refine ⟨w', .int .i64 (min l.length len : Nat), μ, .inl ?_, hrel, .raw rfl⟩
          rw [Sem.run_bind, run_copy_out (P := P) hd hi (some ⟨g, o, none⟩) len qc p l.length cap hcs (fun q hq => by cases hq; exact hrun) (fun hq => by cases hq)]; rfl
      · exact hp.elim
    · exact hp.elim
  · exact hp.elim

/-! ### maps -/
def akey : AV → Option Key
  | .raw (.string s) => some (.str s)
  | .agg [.raw (.int .i64 a), .raw (.int .i64 b)] => some (.two a b)
  | _ => none
def entK : AV → Option Key
  | .tup [k, _] => akey k
  | _ => none
def entW : AV → AV
  | .tup [_, v] => v
  | _ => .junk
def keysOK (kk : KK) : List AV → Bool
  | [] => true
  | e :: l => (match entK e with | some k => kk.fits k | none => false) && keysOK kk l
def mfind (k : Key) : List AV → Nat → Option (Nat × AV)
  | [], _ => none
  | e :: l, i => if entK e = some k then some (i, entW e) else mfind k l (i + 1)
def mput (k : Key) (e : AV) (l : List AV) : List AV := match mfind k l 0 with
  | some (i, _) => l.set i e
  | none => l ++ [e]
/-- The entries of a map. -/
def ments (m : List (Nat × Option Box)) : AV → Prop × List AV
  | .map l => (True, l)
  | .mp id ver => match find m id with
    | some b => (b.ver = ver, b.els)
    | none => (False, [])
  | _ => (False, [])

omit h in
theorem akey_rep {w : World} {Y : Nat → Prop} {μ : Mu} {x : AV} {v : Value} (h : Rep w Y μ x v) {k : Key} (hk : akey x = some k) : vkey v = some k ∧ x.refs = [] := by
  unfold akey at hk
  split at hk
  · cases hk
    obtain ⟨rfl, _⟩ := h.one
    exact ⟨rfl, by simp [AV.refs]⟩
  · rename_i a b
    cases hk
    cases h with
    | agg hs h1 hh =>
      rename_i cs
      have e0 := (hh 0 (by simp)).one.1
      have e1 := (hh 1 (by simp)).one.1
      refine ⟨?_, by simp [AV.refs, AV.refsL]⟩
      have hcs : cs = #[.int .i64 a, .int .i64 b] := by
        apply Array.ext'
        apply List.ext_getElem?
        intro i
        match i with
        | 0 => rw [← e0]; simp [Array.getD_eq_getD_getElem?, hs]
        | 1 => rw [← e1]; simp [Array.getD_eq_getD_getElem?, hs]
        | i + 2 => simp [hs]
      rw [hcs]
      rfl
  · cases hk
omit h in
theorem ent_rep {w : World} {Y : Nat → Prop} {μ : Mu} {e : AV} {x : MapEntry} (h : Rep w Y μ e (entP x)) {k : Key} (hk : entK e = some k) : vkey x.key = some k ∧ Rep w Y μ (entW e) x.val := by
  unfold entK at hk
  split at hk
  · rename_i a b
    unfold entP at h
    cases h with
    | tup hs hh =>
      have h0 := hh 0 (by simp)
      have h1 := hh 1 (by simp)
      simp only [List.getD_cons_zero, List.getD_cons_succ] at h0 h1
      exact ⟨(akey_rep h0 hk).1, h1⟩
  · cases hk
omit h in
theorem mfind_rep {w : World} {Y : Nat → Prop} {kk : KK} {k : Key} : ∀ {l : List AV} {es : List MapEntry}, es.length = l.length → (∀ i, i < l.length → Rep w Y Mu.none (l.getD i .junk) ((es.map entP).getD i undef)) → keysOK kk l = true → ∀ n,
    (mfind k l n = none ∧ vfindE k es n = none) ∨ ∃ j a v, mfind k l n = some (n + j, a) ∧ vfindE k es n = some (n + j, v) ∧ j < l.length ∧ Rep w Y Mu.none a v
  | [], [], _, _, _, n => .inl ⟨rfl, rfl⟩
  | [], _ :: _, hl, _, _, _ => by simp at hl
  | _ :: _, [], hl, _, _, _ => by simp at hl
  | e :: l, x :: es, hl, hr, hk, n => by
    simp only [keysOK, Bool.and_eq_true] at hk
    have h0 := hr 0 (by simp)
    simp only [List.getD_cons_zero, List.map_cons] at h0
    cases hke : entK e with
    | none => rw [hke] at hk; simp at hk
    | some k' =>
      obtain ⟨h1, h2⟩ := ent_rep h0 hke
      simp only [mfind, vfindE, hke, h1]
      by_cases hkk : k' = k
      · subst hkk
        simp only [if_true]
        exact .inr ⟨0, _, _, rfl, rfl, by simp, h2⟩
      · have : ¬ (some k' = some k) := fun e => hkk (Option.some.inj e)
        rw [if_neg this, if_neg this]
        rcases mfind_rep (k := k) (by simpa using hl) (fun i hi => by simpa using hr (i + 1) (by simpa using hi)) hk.2 (n + 1) with h3 | ⟨j, a, v, h3, h4, h5, h6⟩
        · exact .inl h3
        · exact .inr ⟨j + 1, a, v, by rw [h3]; congr 2; omega, by rw [h4]; congr 2; omega, by simp; omega, h6⟩
omit h in
theorem keysOK_rep {w : World} {Y : Nat → Prop} {kk : KK} : ∀ {l : List AV} {es : List MapEntry}, es.length = l.length → (∀ i, i < l.length → Rep w Y Mu.none (l.getD i .junk) ((es.map entP).getD i undef)) → keysOK kk l = true →
    ∀ x ∈ es, ∃ k', vkey x.key = some k' ∧ kk.fits k' = true
  | [], [], _, _, _, x, hx => by cases hx
  | [], _ :: _, hl, _, _, _, _ => by simp at hl
  | _ :: _, [], hl, _, _, _, _ => by simp at hl
  | e :: l, y :: es, hl, hr, hk, x, hx => by
    simp only [keysOK, Bool.and_eq_true] at hk
    have h0 := hr 0 (by simp)
    simp only [List.getD_cons_zero, List.map_cons] at h0
    rcases List.mem_cons.1 hx with rfl | hx
    · cases hke : entK e with
      | none => rw [hke] at hk; simp at hk
      | some k' =>
        rw [hke] at hk
        exact ⟨k', (ent_rep h0 hke).1, hk.1⟩
    · exact keysOK_rep (by simpa using hl) (fun i hi => by simpa using hr (i + 1) (by simpa using hi)) hk.2 x hx
omit h in
theorem entV_list (es : Array MapEntry) (i : Nat) : (es.toList.map entP).getD i undef = entV es i := by
  simp [entV, List.getD_eq_getElem?_getD, Array.getD_eq_getD_getElem?]

include h in
theorem ments_rep {x : AV} {v : Value} (hx : Rep w (Yof B.X μ) μ x v) (hp : (ments s.mem x).1) :
    ∃ g es clock, v = .map (some g) ∧ w.heap[g]? = some (.map es clock) ∧ Stamp es clock (ments s.mem x).2.length ∧ (ments s.mem x).2.length ≤ big ∧ ∀ i, i < (ments s.mem x).2.length → Rep w (Yof B.X μ) Mu.none ((ments s.mem x).2.getD i .junk) (entV es i) := by
  unfold ments at *
  split at hp
  · rename_i l
    cases hx with
    | map hY hb hs hbig hr => exact ⟨_, _, _, rfl, hb, hs, hbig, hr⟩
  · rename_i id ver
    split at hp
    · rename_i b hb
      have hver : b.ver = ver := hp
      obtain ⟨l, hm, hlv, hls, hh⟩ := h.inv.box id b hb
      try simp only [hb]
      cases hx with
      | mpOld hm' hv' => rw [hm] at hm'; cases hm'; omega
      | mp hm' hv' hbk hz =>
        rename_i loc g n
        rw [hm] at hm'; cases hm'
        unfold Holds at hh
        rw [hbk] at hh
        obtain ⟨hbig, _, hmp⟩ := hh
        obtain ⟨_, es, clock, hw, hs, hr⟩ := hmp (by rw [← hls]; exact hz)
        exact ⟨g, es, clock, rfl, hw, hs, hbig, hr⟩
    · exact hp.elim
  · exact hp.elim

include hT in
omit h in
theorem map_desc {t k e : Nat} {kk : KK} (hkn : tknown T t) (hk : tkind T t = .map k e kk) : P.underlying t = some (.map k e) ∧ KeyR P k kk := by
  obtain ⟨ti, ht, _, hkk, _⟩ := tknown_some hkn
  obtain ⟨dd, hd, hdesc⟩ := (hT t ti ht).desc
  rw [hkk] at hk
  rw [hk] at hdesc
  obtain ⟨rfl, h2⟩ := hdesc
  exact ⟨hd, h2⟩

def makeMapE (T : TT) (m : List (Nat × Option Box)) (d : Nat) (t : Nat) (r : Option AV) : Out :=
  match tkind T t with
  | .map _ _ _ => ⟨tknown T t ∧ (match r with | none => True | some (.raw (.int _ _)) => True | _ => False), .mp d (nver m d), [(d, some ⟨0, [], nver m d, false⟩)]⟩
  | _ => bad

include h in
/-- A new map is a new box. -/
theorem new_map (d : Nat) : RelM B (w.alloc (.map #[] 0)) a ⟨s.env, (d, some ⟨0, [], nver s.mem d, false⟩) :: s.mem⟩ (μ.upd d ⟨nver s.mem d, 0, 0, some (w.heap.size, 0)⟩) := by
  have hnew : ∀ g n, (⟨nver s.mem d, 0, 0, some (w.heap.size, 0)⟩ : Loc).blk = some (g, n) → w.heap.size ≤ g := by
    intro g n e
    simp only [Option.some.injEq, Prod.mk.injEq] at e
    omega
  refine RelM.rebox h d ⟨0, [], nver s.mem d, false⟩ ⟨nver s.mem d, 0, 0, some (w.heap.size, 0)⟩ rfl rfl (later_upd h.inv d _ (Nat.le_refl _)) (.inr (zero_upd h.inv d ⟨nver s.mem d, 0, 0, some (w.heap.size, 0)⟩ (Nat.le_refl _))) ⟨⟨rfl, Nat.le_refl _⟩, rfl, rfl⟩ (by simp) (fun g hg _ => alloc_old w _ hg)
    (fun g n e => .inr (hnew g n e)) ?_
  exact ⟨Nat.zero_le _, fun h0 => absurd rfl h0, fun _ => ⟨rfl, #[], 0, alloc_new w _, stamp_nil, fun i hi => by simp at hi⟩⟩

include hT h in
theorem makeMapE_good {d t : Nat} {r : Option AV} {r' : Option Value} (hr0 : r = none → r' = none) (hr : ∀ k n, r = some (.raw (.int k n)) → r' = some (.int k n)) (hp : (makeMapE T s.mem d t r).pre) :
    Good B w a s ((do pure (.value (← Instr.makeMap t r')) : Sem Next).run P w) (makeMapE T s.mem d t r) := by
  unfold makeMapE at *
  split at hp
  · rename_i k e kk hk
    obtain ⟨hkn, hp⟩ := hp
    obtain ⟨hd, _⟩ := map_desc hT hkn hk
    have hrep := Rep.mp (w := w.alloc (.map #[] 0)) (Y := Yof B.X (μ.upd d ⟨nver s.mem d, 0, 0, some (w.heap.size, 0)⟩)) (μ := μ.upd d ⟨nver s.mem d, 0, 0, some (w.heap.size, 0)⟩) (id := d) (ver := nver s.mem d)
      (loc := ⟨nver s.mem d, 0, 0, some (w.heap.size, 0)⟩) (by simp [Mu.upd]) rfl rfl rfl
    refine ⟨_, _, _, .inl ?_, new_map h d, hrep⟩
    split at hp
    · rw [hr0 rfl]
      simp [Instr.makeMap]
    · rw [hr _ _ rfl]
      simp [Instr.makeMap, run_underlying hd, asInt, asIntOf]
    · exact hp.elim
  · exact hp.elim

def mlenE (T : TT) (m : List (Nat × Option Box)) (t : Nat) (x : AV) : Out := puts (tknown T t ∧ (ments m x).1) (.raw (.int .i64 (ments m x).2.length))

include hT h in
theorem mlenE_good {t k e : Nat} {kk : KK} (hk : tkind T t = .map k e kk) {x : AV} {v : Value} (hx : Rep w (Yof B.X μ) μ x v) (hp : (mlenE T s.mem t x).pre) (ty : TypeId) :
    Good B w a s ((do pure (.value (← Builtin.len_ #[t] ty #[v])) : Sem Next).run P w) (mlenE T s.mem t x) := by
  obtain ⟨hkn, hp⟩ := hp
  obtain ⟨hd, _⟩ := map_desc hT hkn hk
  obtain ⟨g, es, clock, rfl, hw, hs, _⟩ := ments_rep h hx hp
  refine ⟨w, .int .i64 (ments s.mem x).2.length, μ, .inl ?_, h, .raw rfl⟩
  simp [Builtin.len_, run_underlying hd, MapKept.run_getObj_map hw, goInt, hs.1]

def lookE (T : TT) (m : List (Nat × Option Box)) (t : Nat) (x ix : AV) (ok : Bool) : Out :=
  match tkind T t with
  | .map _ e kk => match akey ix with
    | some k => puts (tknown T t ∧ tknown T e ∧ (ments m x).1 ∧ keysOK kk (ments m x).2 = true ∧ kk.fits k = true)
        (match mfind k (ments m x).2 0 with
          | some (_, v) => if ok then .tup [v, .raw (.bool true)] else v
          | none => if ok then .tup [tzero T e, .raw (.bool false)] else tzero T e)
    | none => bad
  | _ => bad

omit h in
theorem rep_two {w : World} {Y : Nat → Prop} {μ : Mu} {x y : AV} {u v : Value} (hx : Rep w Y μ x u) (hy : Rep w Y μ y v) : Rep w Y μ (.tup [x, y]) (.tuple #[u, v]) := by
  refine .tup rfl fun i hi => ?_
  match i, hi with
  | 0, _ => exact hx
  | 1, _ => exact hy

include hT h in
theorem lookE_good {t : Nat} {x ix : AV} {v u : Value} {ok : Bool} (hx : Rep w (Yof B.X μ) μ x v) (hix : Rep w (Yof B.X μ) μ ix u) (hp : (lookE T s.mem t x ix ok).pre) :
    Good B w a s ((do pure (.value (← Instr.lookup t v u ok)) : Sem Next).run P w) (lookE T s.mem t x ix ok) := by
  unfold lookE at *
  split at hp
  · rename_i kt e kk hk
    split at hp
    · rename_i k hkey
      obtain ⟨hkn, hke, hm, hks, hfit⟩ := hp
      obtain ⟨hd, hR⟩ := map_desc hT hkn hk
      obtain ⟨te, hte, _, _, hzz⟩ := tknown_some hke
      obtain ⟨g, es, clock, rfl, hw, hs, _, hr⟩ := ments_rep h hx hm
      have hvk := (akey_rep hix hkey).1
      have hr' : ∀ i, i < (ments s.mem x).2.length → Rep w (Yof B.X μ) Mu.none ((ments s.mem x).2.getD i .junk) ((es.toList.map entP).getD i undef) := fun i hi => by rw [entV_list]; exact hr i hi
      have hkeys := keysOK_rep (kk := kk) (es := es.toList) (by simpa using hs.1) hr' hks
      have hfind := hR.fnd u k es.toList w hvk hfit hkeys
      have hchk := hR.chk es.isEmpty u k w hvk hfit
      obtain ⟨z, hz, _, _, hzrep⟩ := (hT e te hte).run_zero w
      try simp only [hkey]
      rcases mfind_rep (k := k) (es := es.toList) (by simpa using hs.1) hr' hks 0 with ⟨h1, h2⟩ | ⟨j, av, vv, h1, h2, _, h4⟩
      · rw [h2] at hfind
        rw [h1]
        cases ok with
        | true => exact ⟨w, .tuple #[z, .bool false], μ, .inl (by simp [Instr.lookup, run_underlying hd, MapKept.run_getObj_map hw, hchk, hfind, hz]), h, by rw [hzz]; exact rep_two (hzrep _ _ _) (.raw rfl)⟩
        | false => exact ⟨w, z, μ, .inl (by simp [Instr.lookup, run_underlying hd, MapKept.run_getObj_map hw, hchk, hfind, hz]), h, by rw [hzz]; exact hzrep _ _ _⟩
      · rw [h2] at hfind
        rw [h1]
        have h5 := h4.mono (μ' := μ) (w' := w) (Y' := Yof B.X μ) (fun b hy _ => ⟨hy, rfl⟩) (Mu.none_later μ)
        cases ok with
        | true => exact ⟨w, .tuple #[vv, .bool true], μ, .inl (by simp [Instr.lookup, run_underlying hd, MapKept.run_getObj_map hw, hchk, hfind]), h, rep_two h5 (.raw rfl)⟩
        | false => exact ⟨w, vv, μ, .inl (by simp [Instr.lookup, run_underlying hd, MapKept.run_getObj_map hw, hchk, hfind]), h, h5⟩
    · exact hp.elim
  · exact hp.elim

def mupdE (T : TT) (m : List (Nat × Option Box)) (t : Nat) (x ix v : AV) : Out :=
  match tkind T t with
  | .map _ e kk => match x, akey ix with
    | .mp id ver, some k => match find m id with
      | some b => ⟨tknown T t ∧ b.ver = ver ∧ b.sz = 0 ∧ keysOK kk b.els = true ∧ kk.fits k = true ∧ b.els.length < big ∧ (nrm T e v).refs = [], .junk, [(id, some { b with els := mput k (.tup [ix, nrm T e v]) b.els })]⟩
      | none => bad
    | _, _ => bad
  | _ => bad

omit h in
theorem entV_push (es : Array MapEntry) (x : MapEntry) (i : Nat) : entV (es.push x) i = if i = es.size then entP x else entV es i := by
  simp only [entV, Array.getD_eq_getD_getElem?, Array.getElem?_map, Array.getElem?_push]
  split <;> simp
omit h in
theorem entV_modify (es : Array MapEntry) (j : Nat) (f : MapEntry → MapEntry) (hj : j < es.size) (i : Nat) : entV (es.modify j f) i = if i = j then entP (f es[j]) else entV es i := by
  simp only [entV, Array.getD_eq_getD_getElem?, Array.getElem?_map, Array.getElem?_modify]
  by_cases h : i = j
  · subst h; simp [hj]
  · simp [h, Ne.symm h]

include hT h in
theorem mupdE_good {t : Nat} {x ix y : AV} {v u q : Value} (hx : Rep w (Yof B.X μ) μ x v) (hix : Rep w (Yof B.X μ) μ ix u) (hy : Rep w (Yof B.X μ) μ y q) (hp : (mupdE T s.mem t x ix y).pre) :
    Good B w a s ((do Instr.mapUpdate t v u q; pure .skip : Sem Next).run P w) (mupdE T s.mem t x ix y) := by
  unfold mupdE at *
  split at hp
  · rename_i kt e kk hk
    split at hp
    · rename_i id ver k hkey
      split at hp
      · rename_i b hb
        obtain ⟨hkn, hver, hsz, hks, hfit, hlt, hrf⟩ := hp
        obtain ⟨hd, hR⟩ := map_desc hT hkn hk
        have hm : (ments s.mem (.mp id ver)).1 := by simp only [ments, hb]; exact hver
        obtain ⟨g, es, clock, rfl, hw, hs, hbig, hr⟩ := ments_rep h hx hm
        have hme : (ments s.mem (.mp id ver)).2 = b.els := by simp only [ments, hb]
        rw [hme] at hs hbig hr
        obtain ⟨hvk, hixr⟩ := akey_rep hix hkey
        have hr' : ∀ i, i < b.els.length → Rep w (Yof B.X μ) Mu.none (b.els.getD i .junk) ((es.toList.map entP).getD i undef) := fun i hi => by rw [entV_list]; exact hr i hi
        have hkeys := keysOK_rep (kk := kk) (es := es.toList) (by simpa using hs.1) hr' hks
        have hfind := hR.fnd u k es.toList w hvk hfit hkeys
        have hchk := hR.chk false u k w hvk hfit
        have hent : ∀ n : Nat, Rep w (Yof B.X μ) Mu.none (.tup [ix, nrm T e y]) (entP ⟨u, q, n⟩) := fun n => rep_two (hix.pure hixr _) ((rep_nrm (T := T) (t := e) hy).pure hrf _)
        -- the box behind any change of the entries
        have hbox : ∀ (es' : Array MapEntry) (clock' : Nat) (els' : List AV), Stamp es' clock' els'.length → els'.length ≤ big → (∀ i, i < els'.length → Rep w (Yof B.X μ) Mu.none (els'.getD i .junk) (entV es' i)) →
            RelM B { w with heap := w.heap.setIfInBounds g (.map es' clock') } a ⟨s.env, (id, some { b with els := els' }) :: s.mem⟩ μ := by
          intro es' clock' els' h1 h2 h3
          obtain ⟨l, hml, hlv, hls, hh⟩ := h.inv.box id b hb
          obtain ⟨hs1, hs2⟩ := MapKept.heap_set (o' := Obj.map es' clock') hw
          cases hx with
          | mpOld hm' hv' => rw [hml] at hm'; cases hm'; omega
          | mp hm' hv' hbk hz =>
            rename_i loc n
            rw [hml] at hm'; cases hm'
            have := RelM.rebox (w' := { w with heap := w.heap.setIfInBounds g (.map es' clock') }) h id { b with els := els' } l hlv hls (later_same hml) (.inl hml) ⟨⟨rfl, Nat.le_refl _⟩, rfl, rfl⟩ (by simp)
              (fun g' _ hno => hs2 g' (fun e => hno _ n hml (by rw [e]; exact hbk))) (fun g' n' hb' => .inl ⟨_, n', hml, hb'⟩) ?_
            · rw [upd_same hml] at this
              exact this
            · rw [upd_same hml]
              unfold Holds at hh ⊢
              rw [hbk] at hh ⊢
              have hv0 := (hh.2.2 hsz).1
              refine ⟨h2, fun h0 => absurd hsz h0, fun _ => ⟨hv0, es', clock', hs1, h1, fun i hi => (h3 i hi).mono (fun p hp _ => ⟨hp, hs2 p (fun e => hp (.inr ⟨id, l, n, hml, by rw [e]; exact hbk⟩))⟩) (Mu.later.refl _)⟩⟩
        try simp only [hkey, hb]
        rcases mfind_rep (k := k) (es := es.toList) (by simpa using hs.1) hr' hks 0 with ⟨h1, h2⟩ | ⟨j, av, vv, h1, h2, hj, _⟩
        · rw [h2] at hfind
          have hmp : mput k (.tup [ix, nrm T e y]) b.els = b.els ++ [.tup [ix, nrm T e y]] := by simp only [mput, h1]
          rw [hmp]
          refine ⟨_, undef, μ, .inr ⟨?_, rfl⟩, hbox (es.push ⟨u, q, clock⟩) (clock + 1) _ (by have := stamp_push hs u q; simpa using this) (by simp; omega) (fun i hi => ?_), .junk⟩
          · simp [Instr.mapUpdate, run_underlying hd, MapKept.run_getObj_map hw, hchk, hfind, MapKept.run_setObj_map _ hw]
          · rw [entV_push]
            by_cases hi2 : i = es.size
            · rw [if_pos hi2]
              have : (b.els ++ [AV.tup [ix, nrm T e y]]).getD i .junk = .tup [ix, nrm T e y] := by simp [List.getD_eq_getElem?_getD, hi2, hs.1]
              rw [this]
              exact hent clock
            · rw [if_neg hi2]
              have hi3 : i < b.els.length := by have := hs.1; simp at hi; omega
              have : (b.els ++ [AV.tup [ix, nrm T e y]]).getD i .junk = b.els.getD i .junk := by simp [List.getD_eq_getElem?_getD, List.getElem?_append, hi3]
              rw [this]
              exact hr i hi3
        · rw [h2] at hfind
          rw [Nat.zero_add] at h1 h2 hfind
          have hmp : mput k (.tup [ix, nrm T e y]) b.els = b.els.set j (.tup [ix, nrm T e y]) := by simp only [mput, h1]
          rw [hmp]
          have hj2 : j < es.size := by have := hs.1; omega
          have hold : vkey es[j].key = some k := by
            have hx2 : es.toList[j]? = some es[j] := by simp [hj2]
            have : ∀ (l : List MapEntry) (n j : Nat) (vv : Value), vfindE k l n = some (n + j, vv) → ∀ x, l[j]? = some x → vkey x.key = some k := by
              intro l
              induction l with
              | nil => intro n j vv h; cases h
              | cons a l ih =>
                intro n j vv hf x hx
                simp only [vfindE] at hf
                split at hf
                · rename_i hkk
                  simp only [Option.some.injEq, Prod.mk.injEq] at hf
                  have : j = 0 := by omega
                  subst this
                  simp at hx
                  subst hx
                  exact hkk
                · have hjn : j ≠ 0 := by
                    intro e
                    subst e
                    have hge : ∀ (l : List MapEntry) (n i : Nat) (vv : Value), vfindE k l n = some (i, vv) → n ≤ i := by
                      intro l
                      induction l with
                      | nil => intro n i vv h; cases h
                      | cons a l ih =>
                        intro n i vv h
                        simp only [vfindE] at h
                        split at h
                        · simp only [Option.some.injEq, Prod.mk.injEq] at h; omega
                        · have := ih _ _ _ h; omega
                    have := hge _ _ _ _ hf
                    omega
                  obtain ⟨j', rfl⟩ : ∃ j', j = j' + 1 := ⟨j - 1, by omega⟩
                  exact ih (n + 1) j' vv (by rw [hf]; congr 2; omega) x (by simpa using hx)
            exact this es.toList 0 j vv (by rw [h2, Nat.zero_add]) es[j] hx2
          have hstay := hR.stay es[j].key u k w hold hvk hfit
          refine ⟨_, undef, μ, .inr ⟨?_, rfl⟩, hbox (es.modify j fun x => { x with key := u, val := q }) clock _ (by have := stamp_modify hs j (fun x => { x with key := u, val := q }) (fun _ => rfl); simpa using this) (by simpa using hbig) (fun i hi => ?_), .junk⟩
          · simp [Instr.mapUpdate, run_underlying hd, MapKept.run_getObj_map hw, hchk, hfind, hj2, hstay, MapKept.run_setObj_map _ hw]
          · have hi' : i < b.els.length := by simpa using hi
            rw [entV_modify es j _ hj2]
            by_cases hi2 : i = j
            · subst hi2
              rw [if_pos rfl]
              have : (b.els.set i (AV.tup [ix, nrm T e y])).getD i .junk = .tup [ix, nrm T e y] := by simp [List.getD_eq_getElem?_getD, hi']
              rw [this]
              exact hent _
            · rw [if_neg hi2]
              have : (b.els.set j (AV.tup [ix, nrm T e y])).getD i .junk = b.els.getD i .junk := by simp [List.getD_eq_getElem?_getD, List.getElem?_set, Ne.symm hi2]
              rw [this]
              exact hr i hi'
      · exact hp.elim
    · exact hp.elim
  · exact hp.elim

/-! ### bytes as a string -/
def bytesOf : List AV → Option (List Int)
  | [] => some []
  | .raw (.int .u8 n) :: l => (bytesOf l).map (n :: ·)
  | _ => none
def strOf (ns : List Int) : ByteArray := ns.foldl (fun r n => r.push (UInt8.ofNat n.toNat)) ByteArray.empty
def convB (T : TT) (m : List (Nat × Option Box)) (src dst : Nat) (x : AV) : Out :=
  match tkind T src with
  | .slice e => match tkind T e with
    | .int .u8 => match bytesOf (elems m x).2.2 with
      | some ns => puts (tknown T src ∧ tknown T e ∧ tknown T dst ∧ (elems m x).1 ∧ (elems m x).2.1 = 1) (.raw (.string (strOf ns)))
      | none => bad
    | _ => bad
  | _ => bad
def convX (T : TT) (m : List (Nat × Option Box)) (src dst : Nat) (x : AV) : Out :=
  match tkind T dst with
  | .str => convB T m src dst x
  | _ => convE T src dst x

omit h in
theorem bytesOf_cells {w : World} {Y : Nat → Prop} {c : Array Value} : ∀ {l : List AV} {ns : List Int} {off : Nat}, bytesOf l = some ns → off + l.length ≤ c.size → (∀ i, i < l.length → Rep w Y Mu.none (l.getD i .junk) (c.getD (off + i) undef)) →
    ∀ i, i < l.length → c.getD (off + i) undef = .int .u8 (ns.getD i 0)
  | [], ns, off, _, _, _, i, hi => by simp at hi
  | .raw (.int .u8 n) :: l, ns, off, hb, hc, hr, i, hi => by
    simp only [bytesOf, Option.map_eq_some_iff] at hb
    obtain ⟨ns', hb, rfl⟩ := hb
    cases i with
    | zero =>
      have := hr 0 (by simp)
      simp only [List.getD_cons_zero] at this
      simpa using this.one.1
    | succ i =>
      have := bytesOf_cells (w := w) (Y := Y) (c := c) (l := l) (ns := ns') (off := off + 1) hb (by simp at hc; omega) (fun k hk => by
        have := hr (k + 1) (by simpa using hk)
        simpa [Nat.add_assoc, Nat.add_comm 1 k] using this) i (by simpa using hi)
      simpa [Nat.add_assoc, Nat.add_comm 1 i] using this
omit h in
theorem bytesOf_length : ∀ {l : List AV} {ns : List Int}, bytesOf l = some ns → ns.length = l.length
  | [], ns, h => by simp only [bytesOf, Option.some.injEq] at h; subst h; rfl
  | a :: l, ns, h => by
    unfold bytesOf at h
    split at h
    · rename_i e; cases e
    · rename_i n l' e
      cases e
      simp only [Option.map_eq_some_iff] at h
      obtain ⟨ns', h, rfl⟩ := h
      simp [bytesOf_length h]
    · cases h
omit h in
theorem bytesOf_width : ∀ {l : List AV} {ns : List Int}, bytesOf l = some ns → ∀ i, i < l.length → ∃ n, l.getD i .junk = .raw (.int .u8 n)
  | [], ns, h, i, hi => by simp at hi
  | a :: l, ns, h, i, hi => by
    unfold bytesOf at h
    split at h
    · rename_i e; cases e
    · rename_i n l' e
      cases e
      simp only [Option.map_eq_some_iff] at h
      obtain ⟨ns', h, rfl⟩ := h
      cases i with
      | zero => exact ⟨n, rfl⟩
      | succ i => simpa using bytesOf_width h i (by simpa using hi)
    · cases h

include hT h in
theorem convX_good {src dst : Nat} {x : AV} {v : Value} (hx : Rep w (Yof B.X μ) μ x v) (hp : (convX T s.mem src dst x).pre) :
    Good B w a s ((do pure (.value (← convert src dst v)) : Sem Next).run P w) (convX T s.mem src dst x) := by
  unfold convX at *
  split at hp
  · rename_i hdst
    try simp only [hdst]
    unfold convB at *
    split at hp
    · rename_i e hk
      split at hp
      · rename_i hke
        split at hp
        · rename_i ns hns
          obtain ⟨h1, h2, h3, hel, hsz⟩ := hp
          obtain ⟨ti, ht, _, hkk, _⟩ := tknown_some h1
          obtain ⟨te, hte, _, hkke, _⟩ := tknown_some h2
          obtain ⟨td, htd, _, hkkd, _⟩ := tknown_some h3
          obtain ⟨d1, hd1, hdesc1⟩ := (hT src ti ht).desc
          obtain ⟨d2, hd2, hdesc2⟩ := (hT e te hte).desc
          obtain ⟨d3, hd3, hdesc3⟩ := (hT dst td htd).desc
          rw [hkk] at hk
          rw [hk] at hdesc1
          rw [hkke] at hke
          rw [hke] at hdesc2
          rw [hkkd] at hdst
          rw [hdst] at hdesc3
          simp only [TK.desc] at hdesc1 hdesc2 hdesc3
          subst hdesc1 hdesc2 hdesc3
          have hcl := elems_cellsed h hx hel
          rw [hsz] at hcl
          try simp only [hns]
          generalize (elems s.mem x).2.2 = l at hns hcl
          refine ⟨w, .string (strOf ns), μ, .inl ?_, h, .raw rfl⟩
          have hlen := bytesOf_length hns
          rcases hcl.out with ⟨rfl, p, cap, rfl⟩ | ⟨b, off, cap, c, el, fr, rfl, hw, hfit, hone, hr⟩
          · have hns0 : ns = [] := List.eq_nil_of_length_eq_zero (by simpa using hlen)
            subst hns0
            rw [Sem.run_bind, run_convert_bytes_string w src dst e p 0 cap hd1 hd2 hd3]
            cases p with
            | none => simp [Conv.bytesToString, strOf]
            | some q => rw [run_bytesToString w q 0 cap [] (by simp [loadCells, loadCellsFrom])]; rfl
          · rw [Sem.run_bind, run_convert_bytes_string w src dst e _ _ cap hd1 hd2 hd3]
            rw [Nat.mul_one] at hfit
            have hcell := bytesOf_cells (w := w) (Y := Yof B.X μ) (c := c) (off := off) hns hfit (fun i hi => by
              have h4 := (hr i hi).2
              obtain ⟨n, hn⟩ := bytesOf_width hns i hi
              rw [hn] at h4 ⊢
              simpa [elemVal] using h4)
            rw [run_bytesToString w ⟨b, off, none⟩ l.length cap ns]
            · rfl
            · rw [run_loadCells_at hw hfit]
              congr 1
              apply Array.ext'
              apply List.ext_getElem?
              intro j
              simp only [List.getElem?_map, Array.getElem?_toList, Array.getElem?_extract]
              by_cases hj : j < l.length
              · have h5 := hcell j hj
                have h6 : off + j < c.size := by omega
                have h7 : j < ns.length := by omega
                simp [Array.getD_eq_getD_getElem?, h6, List.getD_eq_getElem?_getD, h7] at h5
                have h8 : j < min (off + l.length) c.size - off := by omega
                rw [if_pos h8]
                simp [h6, h7, h5]
              · have h7 : ¬ j < ns.length := by omega
                have h8 : ¬ j < min (off + l.length) c.size - off := by omega
                rw [if_neg h8]
                simp [h7]
        · exact hp.elim
      · exact hp.elim
    · exact hp.elim
  · rename_i hdst
    have := convE_good hT h hx hp
    exact this

end
end Go.Abs
end

section
/- The value layer, part 13: one operation of a region, and on what it hangs. -/
namespace Go.Abs

structure AOper where
  dst : Option Nat
  op : Op
  ty : Nat
  guard : Option (Nat × Bool)

def cv : Value → AV
  | .agg _ => .junk
  | .tuple _ => .junk
  | v => .raw v

def ev (e : List (Nat × AV)) : Operand → AV
  | .tmp t => get e t
  | .const v => cv v
  | .global _ => .junk
  | .func f => .fn f [] []

/-- A value without its condition. -/
def st : AV → AV
  | .maybe _ a => a
  | a => a
def sg : AV → Prop
  | .maybe g _ => g = true
  | _ => True

theorem rep_st {w : World} {Y : Nat → Prop} {μ : Mu} {a : AV} {v : Value} (h : Rep w Y μ a v) (hs : sg a) : Rep w Y μ (st a) v := by
  cases h with
  | maybe h0 h => exact h hs
  | raw h => exact .raw h
  | agg h0 h1 h => exact .agg h0 h1 h
  | tup h0 h => exact .tup h0 h
  | nil => exact .nil
  | seq hY hb hc hf hbig hfit hw h1 h => exact .seq hY hb hc hf hbig hfit hw h1 h
  | ipt hY hb hfit h1 h => exact .ipt hY hb hfit h1 h
  | pt hm hv hb hz => exact .pt hm hv hb hz
  | ptOld hm hv => exact .ptOld hm hv
  | slNil hm hv hnf => exact .slNil hm hv hnf
  | sl hm hv hb hc hfit hz => exact .sl hm hv hb hc hfit hz
  | mp hm hv hb hz => exact .mp hm hv hb hz
  | mpOld hm hv => exact .mpOld hm hv
  | map hY hb h0 hbig h => exact .map hY hb h0 hbig h
  | slOld hm hv => exact .slOld hm hv
  | fn h0 ht h k => exact .fn h0 ht h k
  | junk => exact .junk

theorem st_refs (a : AV) : (st a).refs = a.refs := by cases a <;> simp [st, AV.refs]

theorem rep_ev {B : Base} {w : World} {a : Act} {s : St} {μ : Mu} (h : RelM B w a s μ) (x : Operand) : Rep w (Yof B.X μ) μ (ev s.env x) (a.eval x) := by
  cases x with
  | tmp t => exact h.env t
  | const v =>
    simp only [ev, Act.eval]
    unfold cv
    split
    · exact .junk
    · exact .junk
    · rename_i h1 h2
      refine .raw ?_
      cases v with
      | agg cs => exact absurd rfl (h1 cs)
      | tuple cs => exact absurd rfl (h2 cs)
      | _ => rfl
  | global g => exact .junk
  | func f => exact .fn rfl rfl (fun i hi => absurd hi (by simp)) (fun i hi => absurd hi (by simp))

def lenB (T : TT) (m : List (Nat × Option Box)) (t : Nat) (x : AV) : Out :=
  match tkind T t with
  | .map _ _ _ => mlenE T m t x
  | _ => ⟨(lenE T t x).pre ∧ lenOK m x, (lenE T t x).val, (lenE T t x).up⟩

def builtinE (T : TT) (m : List (Nat × Option Box)) (d : Nat) (b : Builtin) (ts : List Nat) (xs : List AV) : Out :=
  match b, ts, xs with
  | .len, [t], [x] => lenB T m t x
  | .append, [t, t'], [x, y] => appE T m d t t' x y
  | .max, _, [x, y] => minE true [x, y]
  | .min, _, [x, y] => minE false [x, y]
  | .cap, [t], [x] => capE T t x
  | .clear, [t], [x] => clearE T m t x
  | .copy, [t, _], [x, y] => copyE T m t x y
  | _, _, _ => bad

/-- All operations but calls of functions. -/
def opE (T : TT) (O : List Nat) (m : List (Nat × Option Box)) (d ty : Nat) (e : List (Nat × AV)) (op : Op) : Out :=
  match op with
  | .move x => moveE T m d ty (st (ev e x))
  | .assign x => moveE T m d ty (st (ev e x))
  | .pick c a b => pickE (st (ev e c)) (ev e a) (ev e b)
  | .box t x => boxE T m d t (st (ev e x))
  | .alloc t => allocE T m d t
  | .build t parts => buildE T m t (parts.toList.map fun p => (p.1, st (ev e p.2)))
  | .buildSlice t len parts => sliceLitE T m (O.contains d) d t len (parts.toList.map fun p => (p.1, st (ev e p.2)))
  | .load t x => loadE T m t (st (ev e x))
  | .store t x y => storeE T m t (st (ev e x)) (st (ev e y))
  | .nilCheck x => nilE m (st (ev e x))
  | .binOp op t x y _ => cmpE T op t (st (ev e x)) (st (ev e y))
  | .unOp op _ x => unE op (st (ev e x))
  | .convert s t x => convX T m s t (st (ev e x))
  | .makeFunc fn f c => fnE fn (f.toList.map fun x => st (ev e x)) (c.toList.map fun x => st (ev e x))
  | .makeSlice t x y => makeE T m d t (st (ev e x)) (st (ev e y))
  | .makeMap t r => makeMapE T m d t (r.map fun x => st (ev e x))
  | .mapUpdate t x k v => mupdE T m t (st (ev e x)) (st (ev e k)) (st (ev e v))
  | .insert t x k v => mupdE T m t (st (ev e x)) (st (ev e k)) (st (ev e v))
  | .lookup t x k ok => lookE T m t (st (ev e x)) (st (ev e k)) ok
  | .slice t x lo hi mx => sliceE T m t (st (ev e x)) (lo.map fun x => st (ev e x)) (hi.map fun x => st (ev e x)) (mx.map fun x => st (ev e x))
  | .fieldAddr t x k => fieldE T m t (st (ev e x)) k
  | .field t x k => partE T t (st (ev e x)) k
  | .indexAddr t x i => indexE T m t (st (ev e x)) (st (ev e i))
  | .index t x i => elemE T t (st (ev e x)) (st (ev e i))
  | .extract x k => tupE (st (ev e x)) k
  | .call c => match c.callee with
    | .builtin b => builtinE T m d b c.argTypes.toList (c.args.toList.map fun x => st (ev e x))
    | _ => bad
  | _ => bad

/-- The operands whose conditions must hold. -/
def firm : Op → List Operand
  | .pick c _ _ => [c]
  | .build _ parts => parts.toList.map (·.2)
  | .buildSlice _ _ parts => parts.toList.map (·.2)
  | op => op.operands.toList

def firms (e : List (Nat × AV)) : List Operand → Prop
  | [] => True
  | x :: l => sg (ev e x) ∧ firms e l

theorem firms_mem {e : List (Nat × AV)} : ∀ {l : List Operand}, firms e l → ∀ x ∈ l, sg (ev e x)
  | [], _, x, h => by cases h
  | y :: l, h, x, hx => by
    cases hx with
    | head => exact h.1
    | tail _ hx => exact firms_mem h.2 x hx

section
variable {P : Program} {T : TT} (hT : TOK P T) {B : Base} {w : World} {a : Act} {s : St} {μ : Mu} (h : RelM B w a s μ)

theorem Good.eq {B : Base} {w : World} {a : Act} {s : St} {r r' : Result Next} {o : Out} (hg : Good B w a s r o) (e : r = r') : Good B w a s r' o := e ▸ hg

include hT h in
theorem opE_good {O : List Nat} {o : Oper} {d : Nat} (hf : firms s.env (firm o.op)) (hp : (opE T O s.mem d o.type s.env o.op).pre) :
    Good B w a s ((execOp a.eval o).run P w) (opE T O s.mem d o.type s.env o.op) := by
  have hx : ∀ x ∈ firm o.op, Rep w (Yof B.X μ) μ (st (ev s.env x)) (a.eval x) := fun x hx => rep_st (rep_ev h x) (firms_mem hf x hx)
  obtain ⟨dst, op, type, pos, after, guard⟩ := o
  simp only at hf hp hx ⊢
  cases op with
  | move x =>
    have h1 := hx x (by simp [firm, Op.operands])
    exact (moveE_good h h1).eq (by simp [execOp])
  | assign x =>
    have h1 := hx x (by simp [firm, Op.operands])
    exact (moveE_good h h1).eq (by simp [execOp])
  | pick c x y =>
    have h1 := hx c (by simp [firm])
    exact (pickE_good (P := P) h h1 (rep_ev h x) (rep_ev h y) hp).eq (by simp [execOp])
  | box t x =>
    have h1 := hx x (by simp [firm, Op.operands])
    exact (boxE_good hT h h1 hp).eq (by simp [execOp])
  | alloc t => exact (allocE_good hT h hp).eq (by simp [execOp])
  | build t parts =>
    refine (buildE_good hT h (vals := parts.map fun (i, x) => (i, a.eval x)) (by simp) (fun i p q h1 h2 => ?_) hp).eq (by simp [execOp])
    simp only [List.getElem?_map, Array.getElem?_toList, Array.getElem?_map, Option.map_eq_some_iff] at h1 h2
    obtain ⟨p', e1, rfl⟩ := h1
    obtain ⟨q', e2, rfl⟩ := h2
    rw [e1] at e2
    cases e2
    refine ⟨rfl, hx p'.2 ?_⟩
    simp only [firm, List.mem_map, Array.mem_toList_iff]
    exact ⟨p', Array.mem_of_getElem? e1, rfl⟩
  | buildSlice t len parts =>
    refine (sliceLitE_good hT h (vals := parts.map fun (i, x) => (i, a.eval x)) (by simp) (fun i p q h1 h2 => ?_) hp).eq (by simp [execOp])
    simp only [List.getElem?_map, Array.getElem?_toList, Array.getElem?_map, Option.map_eq_some_iff] at h1 h2
    obtain ⟨p', e1, rfl⟩ := h1
    obtain ⟨q', e2, rfl⟩ := h2
    rw [e1] at e2
    cases e2
    refine ⟨rfl, hx p'.2 ?_⟩
    simp only [firm, List.mem_map, Array.mem_toList_iff]
    exact ⟨p', Array.mem_of_getElem? e1, rfl⟩
  | load t x =>
    have h1 := hx x (by simp [firm, Op.operands])
    exact (loadE_good hT h h1 hp).eq (by simp [execOp])
  | store t x y =>
    have h1 := hx x (by simp [firm, Op.operands])
    have h2 := hx y (by simp [firm, Op.operands])
    exact (storeE_good hT h h1 h2 hp).eq (by simp [execOp])
  | nilCheck x =>
    have h1 := hx x (by simp [firm, Op.operands])
    exact nilE_good h (o := ⟨dst, .nilCheck x, type, pos, after, guard⟩) (y := x) rfl h1 hp
  | binOp op t x y yt =>
    have h1 := hx x (by simp [firm, Op.operands])
    have h2 := hx y (by simp [firm, Op.operands])
    exact (cmpE_good hT h (ox := x) (oy := y) h1 h2 hp).eq (by simp [execOp])
  | unOp op t x =>
    have h1 := hx x (by simp [firm, Op.operands])
    exact (unE_good (P := P) h h1 hp).eq (by simp [execOp])
  | convert t t' x =>
    have h1 := hx x (by simp [firm, Op.operands])
    exact (convX_good hT h h1 hp).eq (by simp [execOp])
  | makeFunc fn f c =>
    refine (fnE_good (P := P) h (fs := f.map a.eval) (cs := c.map a.eval) (by simp) (by simp) (fun i hi => ?_) (fun i hi => ?_) hp).eq (by simp [execOp])
    · have hi' : i < f.size := by simpa using hi
      have := hx f[i] (by simp [firm, Op.operands])
      simpa [List.getD_eq_getElem?_getD, Array.getD_eq_getD_getElem?, hi'] using this
    · have hi' : i < c.size := by simpa using hi
      have := hx c[i] (by simp [firm, Op.operands])
      simpa [List.getD_eq_getElem?_getD, Array.getD_eq_getD_getElem?, hi'] using this
  | makeMap t r =>
    refine (makeMapE_good hT h (r' := r.map a.eval) ?_ ?_ hp).eq (by simp [execOp])
    · intro e; cases r <;> simp at e ⊢
    · intro k i e
      cases r with
      | none => simp at e
      | some l => simp at e; have := hx l (by simp [firm, Op.operands]); rw [e] at this; simp [this.one.1]
  | mapUpdate t x k v =>
    have h1 := hx x (by simp [firm, Op.operands])
    have h2 := hx k (by simp [firm, Op.operands])
    have h3 := hx v (by simp [firm, Op.operands])
    exact (mupdE_good hT h h1 h2 h3 hp).eq (by simp [execOp])
  | insert t x k v =>
    have h1 := hx x (by simp [firm, Op.operands])
    have h2 := hx k (by simp [firm, Op.operands])
    have h3 := hx v (by simp [firm, Op.operands])
    exact (mupdE_good hT h h1 h2 h3 hp).eq (by simp [execOp])
  | lookup t x k ok =>
    have h1 := hx x (by simp [firm, Op.operands])
    have h2 := hx k (by simp [firm, Op.operands])
    exact (lookE_good hT h h1 h2 hp).eq (by simp [execOp])
  | makeSlice t x y =>
    have h1 := hx x (by simp [firm, Op.operands])
    have h2 := hx y (by simp [firm, Op.operands])
    exact (makeE_good hT h h1 h2 hp).eq (by simp [execOp])
  | slice t x lo hi mx =>
    have h1 := hx x (by simp [firm, Op.operands])
    refine (sliceE_good hT h (lo' := lo.map a.eval) (hi' := hi.map a.eval) (mx' := mx.map a.eval) h1 ?_ ?_ ?_ ?_ ?_ ?_ hp).eq (by simp [execOp])
    · intro k i e
      cases lo with
      | none => simp at e
      | some l => simp at e; have := hx l (by simp [firm, Op.operands]); rw [e] at this; simp [this.one.1]
    · intro e; cases lo <;> simp at e ⊢
    · intro k i e
      cases hi with
      | none => simp at e
      | some l => simp at e; have := hx l (by simp [firm, Op.operands]); rw [e] at this; simp [this.one.1]
    · intro e; cases hi <;> simp at e ⊢
    · intro k i e
      cases mx with
      | none => simp at e
      | some l => simp at e; have := hx l (by simp [firm, Op.operands]); rw [e] at this; simp [this.one.1]
    · intro e; cases mx <;> simp at e ⊢
  | fieldAddr t x k =>
    have h1 := hx x (by simp [firm, Op.operands])
    exact (fieldE_good hT h h1 hp).eq (by simp [execOp])
  | field t x k =>
    have h1 := hx x (by simp [firm, Op.operands])
    exact (partE_good hT h h1 hp).eq (by simp [execOp])
  | indexAddr t x i =>
    have h1 := hx x (by simp [firm, Op.operands])
    have h2 := hx i (by simp [firm, Op.operands])
    exact (indexE_good hT h h1 h2 hp).eq (by simp [execOp])
  | index t x i =>
    have h1 := hx x (by simp [firm, Op.operands])
    have h2 := hx i (by simp [firm, Op.operands])
    exact (elemE_good hT h h1 h2 hp).eq (by simp [execOp])
  | extract x k =>
    have h1 := hx x (by simp [firm, Op.operands])
    exact (tupE_good (P := P) h h1 hp).eq (by simp [execOp])
  | call c =>
    obtain ⟨callee, args, argTypes⟩ := c
    cases callee with
    | value f => exact hp.elim
    | invoke r m => exact hp.elim
    | builtin b =>
      obtain ⟨al⟩ := args
      obtain ⟨tl⟩ := argTypes
      have ha : ∀ x ∈ al, Rep w (Yof B.X μ) μ (st (ev s.env x)) (a.eval x) := fun x hx' => hx x (by simp [firm, Op.operands, Call.operands, hx'])
      simp only [opE] at hp ⊢
      unfold builtinE at hp ⊢
      split at hp
      · rename_i xs t x he2
        cases al with
        | nil => simp at he2
        | cons y l =>
          cases l with
          | cons => simp at he2
          | nil =>
            simp only [List.map_cons, List.map_nil, List.cons.injEq, and_true] at he2
            subst he2
            unfold lenB at hp ⊢
            split at hp
            · rename_i k e kk hk
              try simp only [hk]
              exact (mlenE_good hT h hk (ha y (by simp)) hp type).eq (by simp [execOp, resolve, invoke, builtin])
            · obtain ⟨hp1, hp2⟩ := hp
              have := lenE_good hT h (ha y (by simp)) hp2 hp1 #[t] rfl type
              obtain ⟨w', v, μ', hr, hrel, hrep⟩ := this
              refine ⟨w', v, μ', ?_, hrel, hrep⟩
              simpa [execOp, resolve, invoke, builtin] using hr
      · rename_i xs t t' x y he2
        cases al with
        | nil => simp at he2
        | cons p l =>
          cases l with
          | nil => simp at he2
          | cons q l =>
            cases l with
            | cons => simp at he2
            | nil =>
              simp only [List.map_cons, List.map_nil, List.cons.injEq, and_true] at he2
              obtain ⟨rfl, rfl⟩ := he2
              have := appE_good hT h (ha p (by simp)) (ha q (by simp)) hp type
              exact this.eq (by simp [execOp, resolve, invoke, builtin])
      · rename_i tl b' ts' xs' x y he2
        cases al with
        | nil => simp at he2
        | cons p l =>
          cases l with
          | nil => simp at he2
          | cons q l =>
            cases l with
            | cons => simp at he2
            | nil =>
              simp only [List.map_cons, List.map_nil, List.cons.injEq, and_true] at he2
              obtain ⟨rfl, rfl⟩ := he2
              have := minE_good (P := P) h (mx := true) (ha p (by simp)) (ha q (by simp)) hp ⟨tl⟩ type
              exact this.eq (by simp [execOp, resolve, invoke, builtin])
      · rename_i tl b' ts' xs' x y he2
        cases al with
        | nil => simp at he2
        | cons p l =>
          cases l with
          | nil => simp at he2
          | cons q l =>
            cases l with
            | cons => simp at he2
            | nil =>
              simp only [List.map_cons, List.map_nil, List.cons.injEq, and_true] at he2
              obtain ⟨rfl, rfl⟩ := he2
              have := minE_good (P := P) h (mx := false) (ha p (by simp)) (ha q (by simp)) hp ⟨tl⟩ type
              exact this.eq (by simp [execOp, resolve, invoke, builtin])
      · rename_i xs t x he2
        cases al with
        | nil => simp at he2
        | cons y l =>
          cases l with
          | cons => simp at he2
          | nil =>
            simp only [List.map_cons, List.map_nil, List.cons.injEq, and_true] at he2
            subst he2
            have := capE_good hT h (ha y (by simp)) hp #[t] rfl type
            exact this.eq (by simp [execOp, resolve, invoke, builtin])
      · rename_i xs t x he2
        cases al with
        | nil => simp at he2
        | cons y l =>
          cases l with
          | cons => simp at he2
          | nil =>
            simp only [List.map_cons, List.map_nil, List.cons.injEq, and_true] at he2
            subst he2
            have := clearE_good hT h (ha y (by simp)) hp type
            exact this.eq (by simp [execOp, resolve, invoke, builtin])
      · rename_i xs t t' x y he2
        cases al with
        | nil => simp at he2
        | cons p l =>
          cases l with
          | nil => simp at he2
          | cons q l =>
            cases l with
            | cons => simp at he2
            | nil =>
              simp only [List.map_cons, List.map_nil, List.cons.injEq, and_true] at he2
              obtain ⟨rfl, rfl⟩ := he2
              have := copyE_good hT h (t' := t') (ha p (by simp)) (ha q (by simp)) hp type
              exact this.eq (by simp [execOp, resolve, invoke, builtin])
      · exact hp.elim
  | _ => exact hp.elim
end

end Go.Abs
end

section
/- The value layer, part 14: calls of functions, and the step of one operation. -/
namespace Go.Abs

/- what a value is for somebody who cannot see the boxes -/
mutual
def snap (m : List (Nat × Option Box)) : AV → AV
  | .seq sz l _ => .seq sz l false
  | .sl id _ off len => match find m id with
    | some b => .seq b.sz (rng b.els off len) false
    | none => .junk
  | .pt id _ idx o => match find m id with
    | some b => .ipt (nth b.els idx) o
    | none => .junk
  | .agg l => .agg (snapL m l)
  | .tup l => .tup (snapL m l)
  | .fn f a b => .fn f (snapL m a) (snapL m b)
  | .maybe g a => .maybe g (snap m a)
  | .raw v => .raw v
  | .ipt e o => .ipt e o
  | .mp id _ => match find m id with
    | some b => .map b.els
    | none => .junk
  | .map l => .map l
  | .junk => .junk
def snapL (m : List (Nat × Option Box)) : List AV → List AV
  | [] => []
  | a :: l => snap m a :: snapL m l
end

mutual
def snapOK (m : List (Nat × Option Box)) : AV → Prop
  | .sl id ver off len => match find m id with
    | some b => b.ver = ver ∧ b.var = false ∧ off + len ≤ b.els.length
    | none => False
  | .pt id ver idx _ => match find m id with
    | some b => b.ver = ver ∧ idx < b.els.length ∧ (nth b.els idx).refs = []
    | none => False
  | .agg l => snapOKL m l
  | .tup l => snapOKL m l
  | .fn _ a b => snapOKL m a ∧ snapOKL m b
  | .maybe _ a => snapOK m a
  | .mp id ver => match find m id with
    | some b => b.ver = ver
    | none => False
  | _ => True
def snapOKL (m : List (Nat × Option Box)) : List AV → Prop
  | [] => True
  | a :: l => snapOK m a ∧ snapOKL m l
end

theorem snapL_length {m : List (Nat × Option Box)} : ∀ {l : List AV}, (snapL m l).length = l.length
  | [] => rfl
  | a :: l => by simp [snapL, snapL_length]
theorem snapL_get {m : List (Nat × Option Box)} : ∀ {l : List AV} {i : Nat}, i < l.length → (snapL m l).getD i .junk = snap m (l.getD i .junk)
  | a :: l, 0, _ => by simp [snapL]
  | a :: l, i + 1, h => by simpa [snapL] using snapL_get (l := l) (i := i) (by simpa using h)
theorem snapOKL_get {m : List (Nat × Option Box)} : ∀ {l : List AV} {i : Nat}, snapOKL m l → i < l.length → snapOK m (l.getD i .junk)
  | a :: l, 0, h, _ => by simpa using h.1
  | a :: l, i + 1, h, hi => by simpa using snapOKL_get (l := l) (i := i) h.2 (by simpa using hi)

theorem rep_snap {w : World} {Y X : Nat → Prop} {m : List (Nat × Option Box)} {μ : Mu} {a : AV} {v : Value} (h : Rep w Y μ a v) :
    (∀ b, ¬ Y b → ¬ X b) → Inv w X μ m → snapOK m a → Rep w X Mu.none (snap m a) v := by
  induction h with
  | raw h => intro hYX hi ho; exact .raw h
  | agg h0 h1 h ih =>
    intro hYX hi ho
    refine .agg (by rw [snapL_length]; exact h0) (fun i hi' => h1 i (by rwa [snapL_length] at hi')) (fun i hi' => ?_)
    rw [snapL_length] at hi'
    rw [snapL_get hi']
    exact ih i hi' hYX hi (snapOKL_get ho hi')
  | tup h0 h ih =>
    intro hYX hi ho
    refine .tup (by rw [snapL_length]; exact h0) (fun i hi' => ?_)
    rw [snapL_length] at hi'
    rw [snapL_get hi']
    exact ih i hi' hYX hi (snapOKL_get ho hi')
  | nil => intro _ _ _; exact .nil
  | seq hY hb hc hf hbig hfit hw h1 h ih =>
    intro hYX hi ho
    exact .seq (hYX _ hY) hb hc (fun h => by cases h) hbig hfit hw h1 fun i hi' => (h i hi').mono (fun b hy _ => ⟨hYX b hy, rfl⟩) (Mu.later.refl _)
  | ipt hY hb hfit h1 h ih =>
    intro hYX hi ho
    exact .ipt (hYX _ hY) hb hfit h1 (h.mono (fun b hy _ => ⟨hYX b hy, rfl⟩) (Mu.later.refl _))
  | pt hm hv hbk hz =>
    rename_i μ id ver idx sub loc g n
    intro hYX hi ho
    simp only [snapOK, snap] at ho ⊢
    cases hf : find m id with
    | none => rw [hf] at ho; exact ho.elim
    | some b =>
      rw [hf] at ho
      obtain ⟨hver, hidx, hrf⟩ := ho
      obtain ⟨l, hm', hlv, hls, hh⟩ := hi.box id b hf
      rw [hm] at hm'; cases hm'
      obtain ⟨lv, lsz, l0, lb⟩ := loc
      simp only at hlv hls hbk hv hz
      subst hlv hls hbk
      obtain ⟨hbig, hcell, _⟩ := hh
      obtain ⟨c, el, hw, hcs, hn, h1, hr⟩ := hcell hz
      simp only at hn hr
      have hri := hr idx hidx
      have hfi := mul_lt_of_fit hidx (Nat.le_refl (b.els.length * b.sz))
      have hrep := (hri.2.pure hrf Mu.none).mono (Y' := X) (w' := w) (fun q hy _ => ⟨fun hx => hy (.inl hx), rfl⟩) (Mu.later.refl _)
      have hwid : (nth b.els idx).width = b.sz := hri.1
      exact Rep.ipt (off := l0 + idx * b.sz) (e := nth b.els idx) (hi.out g ⟨id, _, n, hm, rfl⟩) hw (by rw [hwid]; omega) (fun j hj1 hj2 => h1 j (by rw [hwid] at hj2; omega)) (by rw [hwid]; exact hrep)
  | ptOld hm hv =>
    rename_i μ id ver idx sub loc v
    intro hYX hi ho
    simp only [snapOK] at ho
    cases hf : find m id with
    | none => rw [hf] at ho; exact ho.elim
    | some b =>
      rw [hf] at ho
      obtain ⟨l, hm', hlv, hls, hh⟩ := hi.box id b hf
      rw [hm] at hm'; cases hm'
      have := ho.1
      omega
  | slNil hm hv hnf =>
    rename_i μ id ver off loc p
    intro hYX hi ho
    simp only [snapOK, snap] at ho ⊢
    cases hf : find m id with
    | none => rw [hf] at ho; exact ho.elim
    | some b =>
      rw [hf] at ho
      obtain ⟨l, hm', hlv, hls, hh⟩ := hi.box id b hf
      rw [hm] at hm'; cases hm'
      simp only
      have : rng b.els off 0 = [] := by rw [rng_eq]; simp
      rw [this]
      exact .nil
  | sl hm hv hbk hc hfit hz =>
    rename_i μ id ver off len cap loc g n
    intro hYX hi ho
    simp only [snapOK, snap] at ho ⊢
    cases hf : find m id with
    | none => rw [hf] at ho; exact ho.elim
    | some b =>
      rw [hf] at ho
      obtain ⟨hver, hvar, hlen⟩ := ho
      obtain ⟨l, hm', hlv, hls, hh⟩ := hi.box id b hf
      rw [hm] at hm'; cases hm'
      obtain ⟨lv, lsz, l0, lb⟩ := loc
      simp only at hlv hls hbk hv hfit hz
      subst hlv hls hbk
      obtain ⟨hbig, hcell, _⟩ := hh
      obtain ⟨c, el, hw, hcs, hn, h1, hr⟩ := hcell hz
      simp only at hn hr
      have hl : (rng b.els off len).length = len := by rw [rng_eq]; simp; omega
      have e0 : (off + len) * b.sz ≤ b.els.length * b.sz := Nat.mul_le_mul_right _ hlen
      rw [Nat.add_mul] at e0
      have hget : ∀ i, i < len → (rng b.els off len).getD i .junk = b.els.getD (off + i) .junk := by
        intro i hi'
        rw [rng_eq]
        simp only [List.getD_eq_getElem?_getD]
        rw [List.getElem?_take, if_pos hi', List.getElem?_drop]
      have := Rep.seq (w := w) (Y := X) (μ := Mu.none) (sz := b.sz) (l := rng b.els off len) (full := false) (b := g) (off := l0 + off * b.sz) (cap := cap) (hi.out g ⟨id, _, n, hm, rfl⟩) hw (by rw [hl]; exact hc) (fun h => by cases h)
        (by rw [hl]; omega) (by rw [hl]; omega) (fun i hi' => by rw [hl] at hi'; rw [hget i hi']; exact (hr (off + i) (by omega)).1)
        (fun j hj1 hj2 => h1 j (by rw [hl] at hj2; omega)) (fun i hi' => by
          rw [hl] at hi'
          rw [hget i hi']
          have := (hr (off + i) (by omega)).2
          rw [hvar] at this
          simp only [Bool.false_eq_true, if_false] at this
          rw [Nat.add_assoc, ← Nat.add_mul]
          exact this.mono (fun q hy _ => ⟨fun hx => hy (.inl hx), rfl⟩) (Mu.later.refl _))
      rw [hl] at this
      exact this
  | slOld hm hv =>
    rename_i μ id ver off len loc v
    intro hYX hi ho
    simp only [snapOK] at ho
    cases hf : find m id with
    | none => rw [hf] at ho; exact ho.elim
    | some b =>
      rw [hf] at ho
      obtain ⟨l, hm', hlv, hls, hh⟩ := hi.box id b hf
      rw [hm] at hm'; cases hm'
      have := ho.1
      omega
  | fn h0 ht h k ih ik =>
    intro hYX hi ho
    refine .fn (by rw [snapL_length]; exact h0) (by rw [snapL_length]; exact ht) (fun i hi' => ?_) (fun i hi' => ?_)
    · rw [snapL_length] at hi'
      rw [snapL_get hi']
      exact ih i hi' hYX hi (snapOKL_get ho.1 hi')
    · rw [snapL_length] at hi'
      rw [snapL_get hi']
      exact ik i hi' hYX hi (snapOKL_get ho.2 hi')
  | mp hm hv hbk hz =>
    rename_i μ id ver loc g n
    intro hYX hi ho
    simp only [snapOK, snap] at ho ⊢
    cases hf : find m id with
    | none => rw [hf] at ho; exact ho.elim
    | some b =>
      obtain ⟨l, hm', hlv, hls, hh⟩ := hi.box id b hf
      rw [hm] at hm'; cases hm'
      unfold Holds at hh
      rw [hbk] at hh
      obtain ⟨hbig, _, hmp⟩ := hh
      obtain ⟨_, es, clock, hw, hs, hr⟩ := hmp (by rw [← hls]; exact hz)
      exact .map (hi.out g ⟨id, _, n, hm, hbk⟩) hw hs hbig fun k hk => (hr k hk).mono (fun q hy _ => ⟨fun hx => hy (.inl hx), rfl⟩) (Mu.later.refl _)
  | mpOld hm hv =>
    rename_i μ id ver loc v
    intro hYX hi ho
    simp only [snapOK] at ho
    cases hf : find m id with
    | none => rw [hf] at ho; exact ho.elim
    | some b =>
      rw [hf] at ho
      obtain ⟨l, hm', hlv, hls, hh⟩ := hi.box id b hf
      rw [hm] at hm'; cases hm'
      have : b.ver = ver := ho
      omega
  | map hY hb hs hbig h ih =>
    intro hYX hi ho
    exact .map (hYX _ hY) hb hs hbig fun k hk => (h k hk).mono (fun b hy _ => ⟨hYX b hy, rfl⟩) (Mu.later.refl _)
  | maybe h0 h ih => intro hYX hi ho; exact .maybe h0 fun g => ih g hYX hi ho
  | junk => intro _ _ _; exact .junk

end Go.Abs
end

section
/- The value layer, part 15: the contract of a function; the step of one operation; on what it hangs. -/
namespace Go.Abs

/-- A function of the program's own that can be entered. -/
def Enter (P : Program) (f : FuncId) : Prop := ∃ fn, P.funcs[f]? = some fn ∧ fn.name ≠ "runtime.NumGoroutine" ∧ fn.body ≠ none

def Noblk : Nat → Prop := fun _ => False

/-- THE CONTRACT: on values that read so, in whatever world, the function returns what reads so, and leaves all that there was as it was. -/
def CallP (P : Program) (f : FuncId) (args : List AV) (r : AV) : Prop :=
  Enter P f ∧ ∀ (w : World) (X : Nat → Prop) (vs : Array Value), (∀ b, X b → b < w.heap.size) → vs.size = args.length →
    (∀ i, i < args.length → Rep w X Mu.none (args.getD i .junk) (vs.getD i undef)) →
    Calls P f vs w fun e w' => ∃ v, e = .returned v ∧ Grows w w' ∧ Rep w' X Mu.none r v

mutual
/-- A value without addresses. -/
def flat : AV → Bool
  | .raw _ => true
  | .agg l => flatL l
  | .tup l => flatL l
  | _ => false
def flatL : List AV → Bool
  | [] => true
  | a :: l => flat a && flatL l
end

theorem flatL_get : ∀ {l : List AV} {i : Nat}, flatL l = true → i < l.length → flat (l.getD i .junk) = true
  | a :: l, 0, h, _ => by simp [flatL] at h; simpa using h.1
  | a :: l, i + 1, h, hi => by simp [flatL] at h; simpa using flatL_get (l := l) (i := i) h.2 (by simpa using hi)

theorem Rep.flat {w w' : World} {Y Y' : Nat → Prop} {μ : Mu} {a : AV} {v : Value} (h : Rep w Y μ a v) : ∀ (μ' : Mu), Go.Abs.flat a = true → Rep w' Y' μ' a v := by
  induction h with
  | raw h => intro μ' _; exact .raw h
  | agg h0 h1 h ih => intro μ' hf; exact .agg h0 h1 fun i hi => ih i hi μ' (flatL_get (by simpa [Go.Abs.flat] using hf) hi)
  | tup h0 h ih => intro μ' hf; exact .tup h0 fun i hi => ih i hi μ' (flatL_get (by simpa [Go.Abs.flat] using hf) hi)
  | _ => intro μ' hf; simp [Go.Abs.flat] at hf

theorem refsL_get : ∀ {l : List AV} {i : Nat}, AV.refsL l = [] → i < l.length → (l.getD i .junk).refs = []
  | a :: l, 0, h, _ => by simp [AV.refsL] at h; simpa using h.1
  | a :: l, i + 1, h, hi => by simp [AV.refsL] at h; simpa using refsL_get (l := l) (i := i) h.2 (by simpa using hi)

theorem rep_snap_pure {w : World} {Y : Nat → Prop} {m : List (Nat × Option Box)} {μ : Mu} {a : AV} {v : Value} (h : Rep w Y μ a v) : a.refs = [] → Rep w Y Mu.none (snap m a) v := by
  induction h with
  | raw h => intro _; exact .raw h
  | agg h0 h1 h ih =>
    intro hr
    refine .agg (by rw [snapL_length]; exact h0) (fun i hi' => h1 i (by rwa [snapL_length] at hi')) (fun i hi' => ?_)
    rw [snapL_length] at hi'
    rw [snapL_get hi']
    exact ih i hi' (refsL_get (by simpa [AV.refs] using hr) hi')
  | tup h0 h ih =>
    intro hr
    refine .tup (by rw [snapL_length]; exact h0) (fun i hi' => ?_)
    rw [snapL_length] at hi'
    rw [snapL_get hi']
    exact ih i hi' (refsL_get (by simpa [AV.refs] using hr) hi')
  | nil => intro _; exact .nil
  | seq hY hb hc hf hbig hfit hw h1 h ih => intro hr; exact .seq hY hb hc (fun h => by cases h) hbig hfit hw h1 h
  | ipt hY hb hfit h1 h ih => intro hr; exact .ipt hY hb hfit h1 h
  | pt => intro hr; simp [AV.refs] at hr
  | ptOld => intro hr; simp [AV.refs] at hr
  | slNil => intro hr; simp [AV.refs] at hr
  | sl => intro hr; simp [AV.refs] at hr
  | slOld => intro hr; simp [AV.refs] at hr
  | mp => intro hr; simp [AV.refs] at hr
  | mpOld => intro hr; simp [AV.refs] at hr
  | map hY hb hs hbig h ih => intro hr; exact .map hY hb hs hbig h
  | fn h0 ht h k ih ik =>
    intro hr
    simp only [AV.refs, List.append_eq_nil_iff] at hr
    refine .fn (by rw [snapL_length]; exact h0) (by rw [snapL_length]; exact ht) (fun i hi' => ?_) (fun i hi' => ?_)
    · rw [snapL_length] at hi'
      rw [snapL_get hi']
      exact ih i hi' (refsL_get hr.1 hi')
    · rw [snapL_length] at hi'
      rw [snapL_get hi']
      exact ik i hi' (refsL_get hr.2 hi')
  | maybe h0 h ih => intro hr; exact .maybe h0 fun g => ih g (by simpa [AV.refs] using hr)
  | junk => intro _; exact .junk

def tgt (a : AV) (args : List AV) : Option (FuncId × List AV) :=
  match a with
  | .fn f p q => some (f, p ++ args ++ q)
  | _ => none

def nrmL (T : TT) : List Nat → List AV → List AV
  | t :: ts, x :: xs => nrm T t x :: nrmL T ts xs
  | _, xs => xs

theorem nrmL_length {T : TT} : ∀ {ts : List Nat} {xs : List AV}, (nrmL T ts xs).length = xs.length
  | [], xs => by simp [nrmL]
  | t :: ts, [] => by simp [nrmL]
  | t :: ts, x :: xs => by simp [nrmL, nrmL_length]

theorem nrmL_rep {T : TT} {w : World} {Y : Nat → Prop} {μ : Mu} : ∀ {ts : List Nat} {xs : List AV} {vs : List Value}, (∀ i, i < xs.length → Rep w Y μ (xs.getD i .junk) (vs.getD i undef)) →
    ∀ i, i < xs.length → Rep w Y μ ((nrmL T ts xs).getD i .junk) (vs.getD i undef)
  | [], xs, vs, h => by simpa [nrmL] using h
  | t :: ts, [], vs, h => by intro i hi; simp at hi
  | t :: ts, x :: xs, vs, h => by
    intro i hi
    cases i with
    | zero => simpa [nrmL] using rep_nrm (T := T) (t := t) (by simpa using h 0 (by simp))
    | succ i =>
      have := nrmL_rep (T := T) (ts := ts) (xs := xs) (vs := vs.drop 1) (fun k hk => by
        have := h (k + 1) (by simpa using hk)
        simpa [List.getD_eq_getElem?_getD, List.getElem?_drop, Nat.add_comm 1 k] using this) i (by simpa using hi)
      simpa [nrmL, List.getD_eq_getElem?_getD, List.getElem?_drop, Nat.add_comm 1 i] using this

/-- What is asked at a call. -/
def CallOK (P : Program) (T : TT) (e : List (Nat × AV)) (m : List (Nat × Option Box)) (f : Operand) (ts : List Nat) (xs : List Operand) (r : AV) : Prop :=
  match tgt (st (ev e f)) (nrmL T ts (xs.map fun x => st (ev e x))) with
  | some (g, as) => CallP P g (snapL m as) r ∧ snapOKL m as ∧ (AV.refsL as = [] ∨ flat r = true)
  | none => False

/-- What an operation gives, its condition taken for granted. -/
def StepOK (P : Program) (T : TT) (O : List Nat) (o : AOper) (e : List (Nat × AV)) (m : List (Nat × Option Box)) (v : AV) (up : List (Nat × Option Box)) : Prop :=
  firms e (firm o.op) ∧
  match o.op with
  | .call ⟨.value f, args, ts⟩ => CallOK P T e m f ts.toList args.toList v ∧ up = []
  | op => (opE T O m (o.dst.getD 0) o.ty e op).pre ∧ v = (opE T O m (o.dst.getD 0) o.ty e op).val ∧ up = (opE T O m (o.dst.getD 0) o.ty e op).up

/-- The condition of a guarded operation, if it is known. -/
def guardOf (a : AV) (want : Bool) : Option Bool :=
  match a with
  | .raw (.bool b) => some (b == want)
  | .maybe h (.raw (.bool b)) => some (h && (b == want))
  | _ => none

def Steps (P : Program) (T : TT) (O : List Nat) (o : AOper) (e : List (Nat × AV)) (m : List (Nat × Option Box)) (v : AV) (up : List (Nat × Option Box)) : Prop :=
  match o.guard with
  | none => StepOK P T O o e m v up
  | some (g, want) => match guardOf (get e g) want with
    | some c => ∃ x, v = .maybe c x ∧ (c = true → StepOK P T O o e m x up) ∧ (c = true ∨ up = [])
    | none => False

/-- A state behind an operation. -/
def St.app (s : St) (d : Option Nat) (v : AV) (up : List (Nat × Option Box)) : St :=
  ⟨match d with | some d => (d, v) :: s.env | none => s.env, up ++ s.mem⟩

section
variable {P : Program} {T : TT} (hT : TOK P T) {B : Base} {w : World} {a : Act} {s : St}

theorem RelM.app {μ : Mu} {w' : World} {up : List (Nat × Option Box)} (h : RelM B w' a ⟨s.env, up ++ s.mem⟩ μ) {d : Option Nat} (hd : ∀ k, d = some k → k < B.N) {x : AV} {v : Value} (hx : Rep w' (Yof B.X μ) μ x v) :
    RelM B w' (a.put d v) (s.app d x up) μ := by
  cases d with
  | none => exact h
  | some k => exact h.set (hd k rfl) hx

/-- A call is entered with values that read as its arguments. -/
theorem call_wp {o : Oper} {μ : Mu} (h : RelM B w a s μ) {f : Operand} {args : Array Operand} {ts : Array TypeId} (ho : o.op = .call ⟨.value f, args, ts⟩) (hf : firms s.env (firm o.op)) {gid : FuncId} {as : List AV}
    (htgt : tgt (st (ev s.env f)) (nrmL T ts.toList (args.toList.map fun x => st (ev s.env x))) = some (gid, as)) (hent : Enter P gid) {next : Act → World → Prop} {Q : Exit → Act → World → Prop}
    (hcall : ∀ vs : Array Value, vs.size = as.length → (∀ i, i < as.length → Rep w (Yof B.X μ) μ (as.getD i .junk) (vs.getD i undef)) → Calls P gid vs w fun e w' => ∃ v, e = .returned v ∧ next (a.put o.dst v) w') : o.wp P a w next Q := by
  obtain ⟨fn, hfn, hname, hbody⟩ := hent
  have hfrep := rep_st (rep_ev h f) (firms_mem hf f (by simp [firm, ho, Op.operands, Call.operands]))
  unfold tgt at htgt
  split at htgt
  · rename_i f' p q hfe
    rw [hfe] at hfrep
    simp only [Option.some.injEq, Prod.mk.injEq] at htgt
    obtain ⟨rfl, rfl⟩ := htgt
    generalize hfv : a.eval f = fv at hfrep
    cases hfrep with
    | fn h0 ht hp hq =>
      rename_i fs cs
      have harg : ∀ i, i < args.toList.length → Rep w (Yof B.X μ) μ ((args.toList.map fun x => st (ev s.env x)).getD i .junk) ((args.map a.eval).toList.getD i undef) := by
        intro i hi
        have hi' : i < args.size := by simpa using hi
        have := rep_st (rep_ev h args[i]) (firms_mem hf args[i] (by simp [firm, ho, Op.operands, Call.operands]))
        simpa [List.getD_eq_getElem?_getD, hi'] using this
      have harg2 := nrmL_rep (T := T) (ts := ts.toList) (xs := args.toList.map fun x => st (ev s.env x)) (vs := (args.map a.eval).toList) (by intro i hi; exact harg i (by simpa using hi))
      have hall : ∀ i, i < (p ++ nrmL T ts.toList (args.toList.map fun x => st (ev s.env x)) ++ q).length →
          Rep w (Yof B.X μ) μ ((p ++ nrmL T ts.toList (args.toList.map fun x => st (ev s.env x)) ++ q).getD i .junk) ((fs ++ args.map a.eval ++ cs).getD i undef) := by
        intro i hi
        simp only [List.length_append, nrmL_length, List.length_map] at hi
        simp only [List.getD_eq_getElem?_getD, Array.getD_eq_getD_getElem?]
        by_cases h1 : i < p.length
        · have := hp i h1
          rw [List.append_assoc, List.getElem?_append_left h1, Array.append_assoc, Array.getElem?_append_left (by omega)]
          simpa [List.getD_eq_getElem?_getD, Array.getD_eq_getD_getElem?] using this
        · by_cases h2 : i < p.length + args.toList.length
          · have := harg2 (i - p.length) (by simp; simp at h2; omega)
            rw [List.append_assoc, List.getElem?_append_right (by omega), List.getElem?_append_left (by simp [nrmL_length]; simp at h2; omega),
              Array.append_assoc, Array.getElem?_append_right (by omega), Array.getElem?_append_left (by simp at h2 ⊢; omega), h0]
            simpa [List.getD_eq_getElem?_getD] using this
          · have := hq (i - (p.length + args.toList.length)) (by simp at h2 hi ⊢; omega)
            rw [List.getElem?_append_right (by simp [nrmL_length]; simp at h2; omega), Array.getElem?_append_right (by simp at h2 ⊢; omega)]
            simp only [List.length_append, nrmL_length, List.length_map, Array.size_append, Array.size_map, h0]
            simpa [List.getD_eq_getElem?_getD, Array.getD_eq_getD_getElem?] using this
      have hsz : (fs ++ args.map a.eval ++ cs).size = (p ++ nrmL T ts.toList (args.toList.map fun x => st (ev s.env x)) ++ q).length := by
        simp [nrmL_length, h0, ht]
      have hrun : (execOp a.eval o).run P w = .ok (.enter f' (fs ++ args.map a.eval ++ cs)) w := by
        simp [execOp, ho, resolve, hfv, Deferred.ofValue, invoke, callFunc, hfn, hname, hbody]
      unfold Oper.wp
      rw [hrun]
      refine Calls.mono (hcall _ hsz hall) ?_
      rintro e w'' ⟨v, rfl, hn⟩
      exact hn
  · cases htgt

include hT in
/-- One operation that is carried out. -/
theorem stepOK_wp {O : List Nat} {o : Oper} {g : Option (Nat × Bool)} {x : AV} {up : List (Nat × Option Box)} (hrel : Rel B w a s) (hs : StepOK P T O ⟨o.dst, o.op, o.type, g⟩ s.env s.mem x up)
    {next : Act → World → Prop} {Q : Exit → Act → World → Prop}
    (hk : ∀ w' v μ', RelM B w' a ⟨s.env, up ++ s.mem⟩ μ' → Rep w' (Yof B.X μ') μ' x v → next (a.put o.dst v) w') : o.wp P a w next Q := by
  obtain ⟨μ, h⟩ := hrel
  obtain ⟨hf, hs⟩ := hs
  have other : (opE T O s.mem (o.dst.getD 0) o.type s.env o.op).pre ∧ x = (opE T O s.mem (o.dst.getD 0) o.type s.env o.op).val ∧ up = (opE T O s.mem (o.dst.getD 0) o.type s.env o.op).up → o.wp P a w next Q := by
    rintro ⟨hp, rfl, rfl⟩
    obtain ⟨w', v, μ', hr, hrel', hrep⟩ := opE_good hT h hf hp
    unfold Oper.wp
    rcases hr with hr | ⟨hr, rfl⟩
    · rw [hr]; exact hk w' v μ' hrel' hrep
    · rw [hr]; exact hk w' undef μ' hrel' hrep
  by_cases hcall : ∃ f args ts, o.op = .call ⟨.value f, args, ts⟩
  · obtain ⟨f, args, ts, ho⟩ := hcall
    simp only [ho] at hs
    obtain ⟨hc, rfl⟩ := hs
    unfold CallOK at hc
    split at hc
    · rename_i gid as htgt
      obtain ⟨⟨hent, hcall⟩, hsn, hfl⟩ := hc
      refine call_wp h ho hf htgt hent fun vs hsz hall => ?_
      rcases hfl with hrf | hfl
      · have := hcall w (Yof B.X μ) vs (fun b hb => by
          rcases hb with hx | hb
          · exact Nat.lt_of_lt_of_le (h.base b hx).1 h.ext.size
          · exact blks.lt h.inv hb) (by rw [snapL_length]; exact hsz) (fun i hi => by
            rw [snapL_length] at hi
            rw [snapL_get hi]
            exact rep_snap_pure (hall i hi) (refsL_get hrf hi))
        refine Calls.mono this ?_
        rintro e w'' ⟨v, rfl, hg, hrep⟩
        exact ⟨v, rfl, hk w'' v μ (h.grows hg) (hrep.mono (fun b hy _ => ⟨hy, rfl⟩) (Mu.none_later μ))⟩
      · have := hcall w B.X vs (fun b hx => Nat.lt_of_lt_of_le (h.base b hx).1 h.ext.size) (by rw [snapL_length]; exact hsz) (fun i hi => by
            rw [snapL_length] at hi
            rw [snapL_get hi]
            exact rep_snap (hall i hi) (fun b hy hx => hy (.inl hx)) h.inv (snapOKL_get hsn hi))
        refine Calls.mono this ?_
        rintro e w'' ⟨v, rfl, hg, hrep⟩
        exact ⟨v, rfl, hk w'' v μ (h.grows hg) (hrep.flat μ hfl)⟩
    · exact hc.elim
  · refine other ?_
    revert hs
    generalize ho : o.op = op
    rw [ho] at hcall
    cases op with
    | call c =>
      obtain ⟨callee, args, ts⟩ := c
      cases callee with
      | value f => exact absurd ⟨f, args, ts, rfl⟩ hcall
      | _ => exact fun hs => hs
    | _ => exact fun hs => hs
end

end Go.Abs
end
