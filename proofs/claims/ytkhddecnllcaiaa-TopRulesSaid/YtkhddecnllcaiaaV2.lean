/- Part 2 of the proof: the value layer and the contracts of the functions that the statement reaches; proved without conditions beyond those each theorem states. -/
import Derived.Laws.BytesString
import Derived.Orders
import Derived.Test.YtkhddecnllcaiaaV1
set_option linter.unusedSimpArgs false
set_option linter.unusedVariables false

section
/- The value layer, part 12: append, conversions, comparisons of structs; all operations. -/
namespace Go.Abs

/-- A part of a list; all of it, if so. -/
def rng (els : List AV) (off len : Nat) : List AV := if off = 0 ∧ len = els.length then els else (els.drop off).take len

theorem rng_eq (els : List AV) (off len : Nat) : rng els off len = (els.drop off).take len := by
  unfold rng
  split
  · rename_i h
    obtain ⟨rfl, rfl⟩ := h
    simp
  · rfl

/-- The elements that a slice has. -/
def elems (m : List (Nat × Option Box)) : AV → Prop × Nat × List AV
  | .seq sz l _ => (True, sz, l)
  | .sl id ver off len => match find m id with
    | some b => (b.ver = ver ∧ b.var = false ∧ off + len ≤ b.els.length, b.sz, rng b.els off len)
    | none => (False, 0, [])
  | _ => (False, 0, [])

/-- The elements that a slice has, and whether they may hold names. -/
def elemsV (m : List (Nat × Option Box)) : AV → Prop × Nat × List AV × Bool
  | .seq sz l _ => (True, sz, l, false)
  | .sl id ver off len => match find m id with
    | some b => (b.ver = ver ∧ off + len ≤ b.els.length, b.sz, rng b.els off len, b.var)
    | none => (False, 0, [], false)
  | _ => (False, 0, [], false)

section
variable {P : Program} {T : TT} (hT : TOK P T) {B : Base} {w : World} {a : Act} {s : St} {μ : Mu} (h : RelM B w a s μ)

include h in
theorem elems_cellsed {x : AV} {v : Value} (hx : Rep w (Yof B.X μ) μ x v) (hp : (elems s.mem x).1) : Cellsed w (Yof B.X μ) Mu.none (elems s.mem x).2.1 (elems s.mem x).2.2 v := by
  unfold elems at *
  split at hp
  · exact hx.seq_cellsed
  · split at hp
    · rename_i b hb
      obtain ⟨hver, hvar, hlen⟩ := hp
      try simp only [hb]
      rw [rng_eq]
      have := sl_cellsed h hb hver hlen hx
      rw [hvar] at this
      exact this
    · exact hp.elim
  · exact hp.elim

include h in
theorem elemsV_cellsed {x : AV} {v : Value} (hx : Rep w (Yof B.X μ) μ x v) (hp : (elemsV s.mem x).1) : Cellsed w (Yof B.X μ) (if (elemsV s.mem x).2.2.2 then μ else Mu.none) (elemsV s.mem x).2.1 (elemsV s.mem x).2.2.1 v := by
  cases x with
  | seq sz l full => exact hx.seq_cellsed
  | sl id ver off len =>
    cases hb : find s.mem id with
    | none => simp only [elemsV, hb] at hp
    | some b =>
      simp only [elemsV, hb] at hp ⊢
      obtain ⟨hver, hlen⟩ := hp
      rw [rng_eq]
      exact sl_cellsed h hb hver hlen hx
  | _ => exact hp.elim

theorem run_append_zeros {t t' ty e : TypeId} {k : IntKind} {i : TypeInfo} (ht : P.underlying t = some (.slice e)) (ht' : P.underlying t' = some (.int k)) (hi : P.info? e = some i) {p : Option Addr} {z : Value} {n : Nat} (hz : i.zero = some z)
    (h0 : 0 < n) (hn : n ≤ 1000000) (hs : 0 < i.size) (hb : i.bytes ≤ 4096) :
    (Builtin.append_ #[t, t'] ty #[.slice p 0 0, .int .i64 n]).run P w =
      .ok (.slice (some ⟨w.heap.size, 0, none⟩) n (grownCap w n 0 e)) (w.drew.alloc (.cells (#[] ++ Builtin.zeroCells z.cells n ++ Builtin.zeroCells z.cells (grownCap w n 0 e - n)) e)) := by
  have hwrap : IntKind.i64.wrap (n : Int) = n := wrap_in (by simp only [inR]; omega)
  have hle : n * i.bytes ≤ 140737488355328 := by
    have := Nat.mul_le_mul hn hb
    omega
  have hfit := growslice_fits (old := 0) h0 hle
  have h48' : ¬ (281474976710656 < Builtin.nextslicecap n 0 * i.bytes) := by omega
  have h48 : ¬ (281474976710656 < (n : Int) * (i.bytes : Int)) := by
    have h2 : ((n * i.bytes : Nat) : Int) ≤ ((140737488355328 : Nat) : Int) := Int.ofNat_le.2 hle
    rw [Int.natCast_mul] at h2
    omega
  have hneg : ¬ ((n : Int) < 0) := by omega
  have h63' : ¬ (9223372036854775807 < (n : Int)) := by omega
  have hns : ¬ (n * i.size = 0) := by
    intro h
    rcases Nat.mul_eq_zero.1 h with h | h <;> omega
  have hn0 : n ≠ 0 := by omega
  have hold : (Builtin.firstCells i.size 0 (.slice p 0 0)).run P w.drew = .ok #[] w.drew := by
    cases p <;> simp [Builtin.firstCells, loadCells, loadCellsFrom]
  simp [Builtin.append_, run_underlying ht, run_underlying ht', sizeOf, typeInfo, zeroValue, asInt, asIntOf, hi, hz, hwrap, hneg, h48, h63', h48', hns, hn0, Question.forced, hold, newRow, grownCap]

def appE (T : TT) (m : List (Nat × Option Box)) (d : Nat) (t t' : Nat) (x y : AV) : Out :=
  match tkind T t with
  | .slice e => match tkind T t' with
    | .slice e' => match x with
      | .sl id ver off len => match find m id with
        | some b => if (b.var || (elemsV m y).2.2.2) = false ∧ off + len < b.els.length ∧ off + len + (elemsV m y).2.2.1.length ≤ b.els.length then
            ⟨(elemsV m y).1 ∧ (elemsV m y).2.1 = tsize T e ∧ b.ver = ver ∧ b.sz = tsize T e ∧ tknown T t ∧ tknown T t' ∧ tknown T e,
              .sl id ver off (len + (elemsV m y).2.2.1.length), [(id, some { b with els := putEls b.els (off + len) (elemsV m y).2.2.1 })]⟩
          else ⟨(elemsV m y).1 ∧ (elemsV m y).2.1 = tsize T e ∧ b.ver = ver ∧ b.sz = tsize T e ∧ off + len ≤ b.els.length ∧ len + (elemsV m y).2.2.1.length ≤ 1073741824 ∧ tknown T t ∧ tknown T t' ∧ tknown T e,
            .sl id (b.ver + 1) 0 (len + (elemsV m y).2.2.1.length), [(id, some ⟨tsize T e, rng b.els off len ++ (elemsV m y).2.2.1, b.ver + 1, b.var || (elemsV m y).2.2.2⟩)]⟩
        | none => bad
      | .seq sz l full => if l.isEmpty || !(elemsV m y).2.2.1.isEmpty then
          ⟨(elemsV m y).1 ∧ (elemsV m y).2.1 = tsize T e ∧ sz = tsize T e ∧ full = true ∧ l.length + (elemsV m y).2.2.1.length ≤ 1073741824 ∧ tknown T t ∧ tknown T t' ∧ tknown T e,
            .sl d (nver m d) 0 (l.length + (elemsV m y).2.2.1.length), [(d, some ⟨tsize T e, l ++ (elemsV m y).2.2.1, nver m d, (elemsV m y).2.2.2⟩)]⟩
        else puts ((elemsV m y).1 ∧ (elemsV m y).2.1 = tsize T e ∧ tknown T t ∧ tknown T t' ∧ tknown T e) (.seq sz l full)
      | _ => bad
    | .int _ => match x, y with
      | .seq _ [] true, .raw (.int .i64 n) => ⟨0 < n ∧ n ≤ 1000000 ∧ tknown T t ∧ tknown T t' ∧ tknown T e ∧ (tzero T e).refs = [], .sl d (nver m d) 0 n.toNat, [(d, some ⟨tsize T e, List.replicate n.toNat (tzero T e), nver m d, false⟩)]⟩
      | _, _ => bad
    | _ => bad
  | _ => bad

include hT h in
theorem appE_good {d t t' : Nat} {x y : AV} {v u : Value} (hx : Rep w (Yof B.X μ) μ x v) (hy : Rep w (Yof B.X μ) μ y u) (hp : (appE T s.mem d t t' x y).pre) (ty : TypeId) :
    Good B w a s ((do pure (.value (← Builtin.append_ #[t, t'] ty #[v, u])) : Sem Next).run P w) (appE T s.mem d t t' x y) := by
  unfold appE at *
  split at hp
  · rename_i e hk
    split at hp
    · rename_i e' hk'
      have key : tknown T t → tknown T t' → tknown T e → ∃ ti ti' tie, T t = some ti ∧ ti.kind = .slice e ∧ T t' = some ti' ∧ ti'.kind = .slice e' ∧ T e = some tie ∧ tsize T e = tie.size := by
        intro h1 h2 h3
        obtain ⟨ti, ht, _, hkk, _⟩ := tknown_some h1
        obtain ⟨ti', ht', _, hkk', _⟩ := tknown_some h2
        obtain ⟨tie, hte, hze, _⟩ := tknown_some h3
        exact ⟨ti, ti', tie, ht, by rw [← hkk]; exact hk, ht', by rw [← hkk']; exact hk', hte, hze⟩
      split at hp
      · rename_i id ver off len
        split at hp
        · rename_i b hb
          by_cases hrm : (b.var || (elemsV s.mem y).2.2.2) = false ∧ off + len < b.els.length ∧ off + len + (elemsV s.mem y).2.2.1.length ≤ b.els.length
          · rw [if_pos hrm] at hp
            obtain ⟨hy1, hy2, hver, hbs, k1, k2, k3⟩ := hp
            obtain ⟨hvv, hrm1⟩ := hrm
            obtain ⟨hvar, hyv⟩ := Bool.or_eq_false_iff.1 hvv
            obtain ⟨ti, ti', tie, ht, htk, ht', htk', hte, hze⟩ := key k1 k2 k3
            have hcy := elemsV_cellsed h hy hy1
            rw [hy2, hze, hyv] at hcy
            obtain ⟨v', w', hrun, hrel, hrep⟩ := append_room hT ht htk ht' htk' hte (ty := ty) h hb hver hvar (by rw [hbs, hze]) hx hcy hrm1.2
            try simp only [hb]
            rw [if_pos ⟨hvv, hrm1⟩]
            exact ⟨w', v', μ, .inl (by simp [hrun]), hrel, hrep⟩
          rw [if_neg hrm] at hp
          obtain ⟨hy1, hy2, hver, hbs, hlen, hbig, k1, k2, k3⟩ := hp
          obtain ⟨ti, ti', tie, ht, htk, ht', htk', hte, hze⟩ := key k1 k2 k3
          have hcy := elemsV_cellsed h hy hy1
          rw [hy2, hze] at hcy
          obtain ⟨v', w', μ', hrun, hrel, hrep⟩ := append_sl hT ht htk ht' htk' hte (ty := ty) h hb hver (var := b.var || (elemsV s.mem y).2.2.2) (fun e => by simp [e]) (by rw [hbs, hze]) hlen hx (hcy.up fun e => by simp [e]) hbig
          have hnv : nver s.mem id = b.ver + 1 := by simp [nver, hb]
          rw [hnv] at hrel hrep
          try simp only [hb]
          rw [if_neg hrm]
          refine ⟨w', v', μ', .inl (by simp [hrun]), ?_, hrep⟩
          rw [rng_eq, hze]
          exact hrel
        · exact hp.elim
      · rename_i sz l full
        split at hp
        · rename_i hcond
          obtain ⟨hy1, hy2, hsz, hfull, hbig, k1, k2, k3⟩ := hp
          obtain ⟨ti, ti', tie, ht, htk, ht', htk', hte, hze⟩ := key k1 k2 k3
          have hcy := elemsV_cellsed h hy hy1
          rw [hy2, hze] at hcy
          have hcx := hx.seq_cellsed (ν := if (elemsV s.mem y).2.2.2 then μ else Mu.none)
          rw [hsz, hze] at hcx
          obtain ⟨p, cap, rfl⟩ := hx.seq_len
          have hcap : cap = l.length := by
            rcases hx.seq_cells with ⟨rfl, p', e⟩ | ⟨b, off, cap', c, el, fr, e, hY, hb, hc, hff, _⟩
            · simp only [Value.slice.injEq] at e; simp [e.2.2]
            · simp only [Value.slice.injEq] at e; rw [e.2.2]; exact hff hfull
          try simp only [hcond, if_true]
          by_cases hne : (elemsV s.mem y).2.2.1 = []
          · have hl : l = [] := by
              rw [hne] at hcond
              simpa using hcond
            subst hl
            have hcap0 : cap = 0 := by simpa using hcap
            subst hcap0
            obtain ⟨dd, hd, hkd⟩ := (hT t ti ht).desc
            rw [htk] at hkd
            simp only [TK.desc] at hkd
            subst hkd
            obtain ⟨dd, hd', hkd⟩ := (hT t' ti' ht').desc
            rw [htk'] at hkd
            simp only [TK.desc] at hkd
            subst hkd
            obtain ⟨i, z, hi, hisz, _⟩ := (hT e tie hte).info
            obtain ⟨cs, hcs, hcsz, _, ⟨q, qc, hq⟩, _⟩ := hcy.first (P := P)
            rw [hne] at hcs hcsz hq
            subst hq
            have hcs0 : cs = #[] := Array.eq_empty_of_size_eq_zero (by simpa using hcsz)
            have hrun := run_append_nothing (P := P) (w := w) (ty := ty) hd hd' hi (p := p) (n := 0) (m := 0) (cap := 0) (by rw [hisz]; exact hcs) hcs0 (by simp)
            have hnb := nil_box h d (tsize T e) (elemsV s.mem y).2.2.2
            refine ⟨w, _, _, .inl (by simp at hrun ⊢; simp [hrun]; rfl), by rw [hne]; simpa using hnb, ?_⟩
            rw [hne]
            exact Rep.slNil (loc := ⟨nver s.mem d, tsize T e, 0, none⟩) (by simp [Mu.upd]) rfl (fun _ _ e => by cases e)
          · have hpos : 0 < (elemsV s.mem y).2.2.1.length := List.length_pos_iff.2 hne
            obtain ⟨v', w', μ', hrun, hrel, hrep⟩ := append_out hT ht htk ht' htk' hte (ty := ty) h d (elemsV s.mem y).2.2.2 hcx hcy (by omega) hbig
            refine ⟨w', v', μ', .inl (by simp [hrun]), ?_, hrep⟩
            rw [hze]
            exact hrel
        · rename_i hcond
          obtain ⟨hy1, hy2, k1, k2, k3⟩ := hp
          obtain ⟨ti, ti', tie, ht, htk, ht', htk', hte, hze⟩ := key k1 k2 k3
          have hcy := elemsV_cellsed h hy hy1
          rw [hy2, hze] at hcy
          have hne : (elemsV s.mem y).2.2.1 = [] := by
            simp only [Bool.or_eq_true, Bool.not_eq_true', not_or, Bool.not_eq_false, List.isEmpty_iff] at hcond
            exact hcond.2
          try simp only [hcond, if_false]
          obtain ⟨p, cap, rfl⟩ := hx.seq_len
          have hcap : l.length ≤ cap := by
            rcases hx.seq_cells with ⟨rfl, p', e⟩ | ⟨b, off, cap', c, el, fr, e, hY, hb, hc, hff, _⟩
            · simp
            · simp only [Value.slice.injEq] at e; rw [e.2.2]; exact hc
          obtain ⟨dd, hd, hkd⟩ := (hT t ti ht).desc
          rw [htk] at hkd
          simp only [TK.desc] at hkd
          subst hkd
          obtain ⟨dd, hd', hkd⟩ := (hT t' ti' ht').desc
          rw [htk'] at hkd
          simp only [TK.desc] at hkd
          subst hkd
          obtain ⟨i, z, hi, hisz, _⟩ := (hT e tie hte).info
          obtain ⟨cs, hcs, hcsz, _, ⟨q, qc, hq⟩, _⟩ := hcy.first (P := P)
          rw [hne] at hcs hcsz hq
          subst hq
          have hcs0 : cs = #[] := Array.eq_empty_of_size_eq_zero (by simpa using hcsz)
          have hrun := run_append_nothing (P := P) (w := w) (ty := ty) hd hd' hi (p := p) (n := l.length) (m := 0) (cap := cap) (by rw [hisz]; exact hcs) hcs0 (by simpa using hcap)
          refine ⟨w, .slice p l.length cap, μ, .inl ?_, h, hx⟩
          simp at hrun ⊢
          simp [hrun]
      · exact hp.elim
    · rename_i k hk'
      split at hp
      · rename_i sz n
        obtain ⟨h0, h1, hkn, hkn', hke, hzref⟩ := hp
        obtain ⟨ti, ht, _, hkk, _⟩ := tknown_some hkn
        obtain ⟨ti', ht', _, hkk', _⟩ := tknown_some hkn'
        obtain ⟨te, hte, hze, _, hzz⟩ := tknown_some hke
        have hkt := hT e te hte
        obtain ⟨dd, hd, hdesc⟩ := (hT t ti ht).desc
        rw [hkk] at hk
        rw [hk] at hdesc
        simp only [TK.desc] at hdesc
        subst hdesc
        obtain ⟨dd, hd', hdesc⟩ := (hT t' ti' ht').desc
        rw [hkk'] at hk'
        rw [hk'] at hdesc
        simp only [TK.desc] at hdesc
        subst hdesc
        obtain ⟨rfl, _⟩ := hy.one
        have hv : ∃ p, v = .slice p 0 0 := by
          rcases hx.seq_cells with ⟨_, p', rfl⟩ | ⟨b, off, cap', c, el, fr, rfl, hY, hb, hc, hff, _⟩
          · exact ⟨_, rfl⟩
          · have := hff rfl
            subst this
            exact ⟨_, rfl⟩
        obtain ⟨p, rfl⟩ := hv
        obtain ⟨i, z, hi, hisz, hib, hz, hzc, hz1, _, _⟩ := hkt.info
        obtain ⟨z', hzr, hzc', hz1', hzcells, hzel⟩ := zero_elem hT hte
        have hzeq : z' = z := by
          have := hzr w
          simp [zeroValue, typeInfo, hi, hz] at this
          exact this.symm
        subst hzeq
        rw [hzz] at hzref
        have hpos := hkt.pos
        have hbd := hkt.bound
        have hn : n = ((n.toNat : Nat) : Int) := by omega
        have hrun := run_append_zeros (P := P) (w := w) (ty := ty) hd hd' hi (p := p) (n := n.toNat) hz (by omega) (by omega) (by omega) (by omega)
        rw [← hn] at hrun
        have hrow : Row w.drew (Yof B.X μ) Mu.none te.size (List.replicate n.toNat te.zero) ((Array.range (n.toNat * te.size)).map (z'.cells[· % z'.cells.size]!)) :=
          zero_row hzc hpos hz1 hkt.width (refs_rep hzref (hzel w.drew (Yof B.X μ) μ))
        have hsame : (Array.range (n.toNat * te.size)).map (z'.cells[· % z'.cells.size]!) = Builtin.zeroCells z'.cells n.toNat := by
          unfold Builtin.zeroCells
          rw [hzc]
        rw [hsame] at hrow
        have hge := grownCap_ge w n.toNat 0 e
        have hzs : (Builtin.zeroCells z'.cells (grownCap w n.toNat 0 e - n.toNat)).size = (grownCap w n.toNat 0 e - n.toNat) * te.size := by rw [size_zeroCells, hzc]
        have hzs0 : (Builtin.zeroCells z'.cells n.toNat).size = n.toNat * te.size := by rw [size_zeroCells, hzc]
        have htot : (#[] ++ Builtin.zeroCells z'.cells n.toNat ++ Builtin.zeroCells z'.cells (grownCap w n.toNat 0 e - n.toNat)).size = grownCap w n.toNat 0 e * te.size := by
          simp only [Array.size_append, hzs, hzs0, List.size_toArray, List.length_nil, Nat.zero_add, ← Nat.add_mul]
          congr 1
          omega
        have hnb := new_box (h.grows (Grows.drew w)) d te.size ([] ++ List.replicate n.toNat te.zero) false (#[] ++ Builtin.zeroCells z'.cells n.toNat ++ Builtin.zeroCells z'.cells (grownCap w n.toNat 0 e - n.toNat)) e
          (by omega) (by simp [big]; omega)
          (by rw [htot]; simp only [List.nil_append, List.length_replicate]; exact Nat.mul_le_mul_right _ hge)
          (one_append (one_append (by intro j hj; simp at hj) hrow.one) (one_zeros (by rw [hzc]; exact hz1) (by omega) _))
          (rep_joined (by simp) (by rw [hzs0]; simp) (fun i hi => by simp at hi) (fun i hi => ⟨(hrow.rep i hi).1, (hrow.rep i hi).2⟩))
        have hsl := Rep.sl (w := w.drew.alloc (.cells (#[] ++ Builtin.zeroCells z'.cells n.toNat ++ Builtin.zeroCells z'.cells (grownCap w n.toNat 0 e - n.toNat)) e))
          (Y := Yof B.X (μ.upd d ⟨nver s.mem d, te.size, 0, some (w.drew.heap.size, (#[] ++ Builtin.zeroCells z'.cells n.toNat ++ Builtin.zeroCells z'.cells (grownCap w n.toNat 0 e - n.toNat)).size)⟩))
          (μ := μ.upd d ⟨nver s.mem d, te.size, 0, some (w.drew.heap.size, (#[] ++ Builtin.zeroCells z'.cells n.toNat ++ Builtin.zeroCells z'.cells (grownCap w n.toNat 0 e - n.toNat)).size)⟩)
          (id := d) (ver := nver s.mem d) (off := 0) (len := n.toNat) (cap := grownCap w n.toNat 0 e)
          (loc := ⟨nver s.mem d, te.size, 0, some (w.drew.heap.size, (#[] ++ Builtin.zeroCells z'.cells n.toNat ++ Builtin.zeroCells z'.cells (grownCap w n.toNat 0 e - n.toNat)).size)⟩)
          (by simp [Mu.upd]) rfl rfl hge (by simp only [Nat.zero_add]; rw [htot]) (by show te.size ≠ 0; omega)
        refine ⟨_, _, _, .inl ?_, by simpa [hze, hzz] using hnb, by simpa using hsl⟩
        rw [Sem.run_bind, hrun]
        simp
      · exact hp.elim
    · exact hp.elim
  · exact hp.elim

/-! ### conversions between integers -/
def convE (T : TT) (src dst : Nat) (x : AV) : Out :=
  match x with
  | .raw (.int _ n) => match tkind T src with
    | .int _ => match tkind T dst with
      | .int k => puts (tknown T src ∧ tknown T dst) (.raw (.int k (k.wrap n)))
      | _ => bad
    | _ => bad
  | _ => bad

include hT h in
theorem convE_good {src dst : Nat} {x : AV} {v : Value} (hx : Rep w (Yof B.X μ) μ x v) (hp : (convE T src dst x).pre) :
    Good B w a s ((do pure (.value (← convert src dst v)) : Sem Next).run P w) (convE T src dst x) := by
  unfold convE at *
  split at hp
  · rename_i k0 n
    obtain ⟨rfl, _⟩ := hx.one
    split at hp
    · rename_i ks hks
      split at hp
      · rename_i k hk
        obtain ⟨h1, h2⟩ := hp
        obtain ⟨ti, ht, _, hkk, _⟩ := tknown_some h1
        obtain ⟨td, htd, _, hkd, _⟩ := tknown_some h2
        obtain ⟨d1, hd1, hdesc1⟩ := (hT src ti ht).desc
        obtain ⟨d2, hd2, hdesc2⟩ := (hT dst td htd).desc
        rw [hkk] at hks
        rw [hks] at hdesc1
        rw [hkd] at hk
        rw [hk] at hdesc2
        simp only [TK.desc] at hdesc1 hdesc2
        subst hdesc1 hdesc2
        exact ⟨w, .int k (k.wrap n), μ, .inl (by simp [convert, run_underlying hd1, run_underlying hd2, Conv.intToInt]), h, .raw rfl⟩
      · exact hp.elim
    · exact hp.elim
  · exact hp.elim

/-! ### comparisons of bools and structs -/
def avEq : AV → AV → Option Bool
  | .raw (.int k a), .raw (.int k' b) => if k = k' then some (decide (a = b)) else none
  | .raw (.bool a), .raw (.bool b) => some (a == b)
  | _, _ => none
def avsEq : List AV → List AV → Option Bool
  | [], [] => some true
  | x :: xs, y :: ys => match avEq x y with
    | some a => match avsEq xs ys with
      | some b => some (a && b)
      | none => none
    | none => none
  | _, _ => none

theorem avEq_spec {x y : AV} {b : Bool} (hb : avEq x y = some b) {v u : Value} (hx : Rep w (Yof B.X μ) μ x v) (hy : Rep w (Yof B.X μ) μ y u) : vEq v u = some b := by
  unfold avEq at hb
  split at hb
  · obtain ⟨rfl, _⟩ := hx.one
    obtain ⟨rfl, _⟩ := hy.one
    exact hb
  · obtain ⟨rfl, _⟩ := hx.one
    obtain ⟨rfl, _⟩ := hy.one
    exact hb
  · cases hb

theorem avsEq_spec : ∀ {xs ys : List AV} {b : Bool}, avsEq xs ys = some b → ∀ {vs us : List Value}, vs.length = xs.length → us.length = ys.length →
    (∀ i, i < xs.length → Rep w (Yof B.X μ) μ (xs.getD i .junk) (vs.getD i undef)) → (∀ i, i < ys.length → Rep w (Yof B.X μ) μ (ys.getD i .junk) (us.getD i undef)) → vsEq vs us = some b
  | [], [], b, h, vs, us, h1, h2, _, _ => by
    simp at h1 h2; subst h1 h2; exact h
  | x :: xs, y :: ys, b, h, v :: vs, u :: us, h1, h2, h3, h4 => by
    simp only [avsEq] at h
    cases hxy : avEq x y with
    | none => rw [hxy] at h; cases h
    | some c =>
      rw [hxy] at h
      cases hr : avsEq xs ys with
      | none => rw [hr] at h; cases h
      | some d =>
        rw [hr] at h
        have e1 := avEq_spec (w := w) (B := B) (μ := μ) hxy (v := v) (u := u) (by simpa using h3 0 (by simp)) (by simpa using h4 0 (by simp))
        have e2 := avsEq_spec (vs := vs) (us := us) hr (by simpa using h1) (by simpa using h2) (fun i hi => by simpa using h3 (i + 1) (by simpa using hi)) (fun i hi => by simpa using h4 (i + 1) (by simpa using hi))
        simp only [vsEq, e1, e2]
        exact h
  | [], _ :: _, b, h, _, _, _, _, _, _ => by simp [avsEq] at h
  | _ :: _, [], b, h, _, _, _, _, _, _ => by simp [avsEq] at h
  | _ :: _, _, b, h, [], _, h1, _, _, _ => by simp at h1
  | _, _ :: _, b, h, _, [], _, h2, _, _ => by simp at h2

theorem avsEq_kinds : ∀ {xs ys : List AV} {b : Bool}, avsEq xs ys = some b → ∀ {vs : List Value}, vs.length = xs.length →
    (∀ i, i < xs.length → Rep w (Yof B.X μ) μ (xs.getD i .junk) (vs.getD i undef)) → vs.map vkind = xs.map akind
  | [], ys, b, h, vs, h1, _ => by
    simp at h1; subst h1; rfl
  | x :: xs, y :: ys, b, h, v :: vs, h1, h3 => by
    simp only [avsEq] at h
    cases hxy : avEq x y with
    | none => rw [hxy] at h; cases h
    | some c =>
      rw [hxy] at h
      cases hr : avsEq xs ys with
      | none => rw [hr] at h; cases h
      | some d =>
        have e1 : vkind v = akind x := by
          have h0 := h3 0 (by simp)
          simp only [List.getD_cons_zero] at h0
          cases x with
          | raw u => obtain ⟨rfl, _⟩ := h0.one; rfl
          | _ => simp [avEq] at hxy
        have e2 := avsEq_kinds (vs := vs) hr (by simpa using h1) (fun i hi => by simpa using h3 (i + 1) (by simpa using hi))
        simp only [List.map_cons, e1, e2]
  | _ :: _, [], b, h, _, _, _ => by simp [avsEq] at h
  | _ :: _, _, b, h, [], h1, _ => by simp at h1

def teq (T : TT) (t : Nat) : Bool := match T t with | some ti => ti.eq | none => false

/-- A type of slices. -/
def slTy (T : TT) (t : Nat) : Bool := match tkind T t with | .slice _ => true | _ => false
def cmpE (T : TT) (op : BinOp) (t : Nat) (x y : AV) : Out :=
  match x, y with
  | .raw (.bool a), .raw (.bool b) => match op with
    | .eql => puts (tknown T t ∧ tkind T t = .bool) (.raw (.bool (a == b)))
    | .neq => puts (tknown T t ∧ tkind T t = .bool) (.raw (.bool (!(a == b))))
    | _ => bad
  | .agg l, .agg l' => match avsEq l l' with
    | some b => match op with
      | .eql => puts (tknown T t ∧ teq T t = true ∧ l.map akind = (cellsOf (tzero T t)).map akind) (.raw (.bool b))
      | .neq => puts (tknown T t ∧ teq T t = true ∧ l.map akind = (cellsOf (tzero T t)).map akind) (.raw (.bool (!b)))
      | _ => bad
    | none => bad
  | .raw (.slice none 0 0), .raw (.slice none 0 0) => match op with
    | .eql => puts (tknown T t ∧ slTy T t = true) (.raw (.bool true))
    | .neq => puts (tknown T t ∧ slTy T t = true) (.raw (.bool false))
    | _ => bad
  | .seq _ l _, .raw (.slice none 0 0) => match op with
    | .eql => puts (tknown T t ∧ slTy T t = true ∧ l ≠ []) (.raw (.bool false))
    | .neq => puts (tknown T t ∧ slTy T t = true ∧ l ≠ []) (.raw (.bool true))
    | _ => bad
  | x, y => binE op x y
omit hT h in
theorem run_equalIn_nil0 {t e : Nat} (hu : P.underlying t = some (.slice e)) (d : Nat) (p : Option Addr) (n cap : Nat) (w : World) : (Op.equalIn (d + 1) t (.slice p n cap) (.slice none 0 0)).run P w = .ok p.isNone w := by
  cases p <;> simp [Op.equalIn, run_underlying hu]

include hT h in
theorem cmpE_good {op : BinOp} {t : Nat} {ox oy : Operand} {x y : AV} {v u : Value} (hx : Rep w (Yof B.X μ) μ x v) (hy : Rep w (Yof B.X μ) μ y u) (hp : (cmpE T op t x y).pre) :
    Good B w a s ((do let r ← (do eqGuard op t ox oy v u; binOp op t v u : Sem Value); pure (.value r) : Sem Next).run P w) (cmpE T op t x y) := by
  unfold cmpE at *
  split at hp
  · rename_i p q
    obtain ⟨rfl, _⟩ := hx.one
    obtain ⟨rfl, _⟩ := hy.one
    have key : tknown T t ∧ tkind T t = .bool → P.underlying t = some .bool := by
      rintro ⟨h1, h2⟩
      obtain ⟨ti, ht, _, hkk, _⟩ := tknown_some h1
      obtain ⟨d, hd, hdesc⟩ := (hT t ti ht).desc
      rw [hkk] at h2
      rw [h2] at hdesc
      simp only [TK.desc] at hdesc
      subst hdesc
      exact hd
    split at hp
    · have hu := key hp
      exact ⟨w, .bool (p == q), μ, .inl (by simp [eqGuard, run_eql_bool w t p q hu]), h, .raw rfl⟩
    · have hu := key hp
      exact ⟨w, .bool (!(p == q)), μ, .inl (by simp [eqGuard, run_neq_bool w t p q hu]), h, .raw rfl⟩
    · exact hp.elim
  · rename_i l l'
    split at hp
    · rename_i b heq
      cases hx with
      | agg hs h1 hh =>
        rename_i cs
        cases hy with
        | agg hs' h1' hh' =>
          rename_i cs'
          have hv := avsEq_spec (w := w) (B := B) (μ := μ) heq (vs := cs.toList) (us := cs'.toList) (by simpa using hs) (by simpa using hs')
            (fun i hi => by have := hh i hi; simpa [Array.getD_eq_getD_getElem?, List.getD_eq_getElem?_getD] using this)
            (fun i hi => by have := hh' i hi; simpa [Array.getD_eq_getD_getElem?, List.getD_eq_getElem?_getD] using this)
          have hkd := avsEq_kinds (w := w) (B := B) (μ := μ) heq (vs := cs.toList) (by simpa using hs)
            (fun i hi => by have := hh i hi; simpa [Array.getD_eq_getD_getElem?, List.getD_eq_getElem?_getD] using this)
          have key : tknown T t ∧ teq T t = true ∧ l.map akind = (cellsOf (tzero T t)).map akind → ∃ ti, T t = some ti ∧ ti.eq = true ∧ cs.toList.map vkind = (cellsOf ti.zero).map akind := by
            rintro ⟨k1, k2, k3⟩
            obtain ⟨ti, ht, hz, _⟩ := tknown_some k1
            have k2' : ti.eq = true := by simpa [teq, ht] using k2
            have k4 : tzero T t = ti.zero := by simp [tzero, ht]
            exact ⟨ti, ht, k2', by rw [hkd, k3, k4]⟩
          split at hp
          · obtain ⟨ti, ht, k2, k3⟩ := key hp
            have hr := ((hT t ti ht).eqr k2 cs cs' b ox oy w k3 hv).1
            exact ⟨w, .bool b, μ, .inl (by rw [Sem.run_bind, hr]; rfl), h, .raw rfl⟩
          · obtain ⟨ti, ht, k2, k3⟩ := key hp
            have hr := ((hT t ti ht).eqr k2 cs cs' b ox oy w k3 hv).2
            exact ⟨w, .bool (!b), μ, .inl (by rw [Sem.run_bind, hr]; rfl), h, .raw rfl⟩
          · exact hp.elim
    · exact hp.elim
  · obtain ⟨rfl, _⟩ := hx.one
    obtain ⟨rfl, _⟩ := hy.one
    have key : tknown T t ∧ slTy T t = true → ∃ e, P.underlying t = some (.slice e) := by
      rintro ⟨h1, h2⟩
      obtain ⟨ti, ht, _, hkk, _⟩ := tknown_some h1
      obtain ⟨d, hd, hdesc⟩ := (hT t ti ht).desc
      unfold slTy at h2
      split at h2
      · rename_i e hk
        rw [hk] at hkk
        rw [← hkk] at hdesc
        simp only [TK.desc] at hdesc
        subst hdesc
        exact ⟨e, hd⟩
      · cases h2
    split at hp
    · obtain ⟨e, hu⟩ := key hp
      have heq : (Op.equal t (.slice none 0 0) (.slice none 0 0)).run P w = .ok true w := run_equalIn_nil0 hu 9999 none 0 0 w
      exact ⟨w, .bool true, μ, .inl (by simp [eqGuard, binOp, heq]), h, .raw rfl⟩
    · obtain ⟨e, hu⟩ := key hp
      have heq : (Op.equal t (.slice none 0 0) (.slice none 0 0)).run P w = .ok true w := run_equalIn_nil0 hu 9999 none 0 0 w
      exact ⟨w, .bool false, μ, .inl (by simp [eqGuard, binOp, heq]), h, .raw rfl⟩
    · exact hp.elim
  · rename_i l _
    obtain ⟨rfl, _⟩ := hy.one
    have key : tknown T t ∧ slTy T t = true → ∃ e, P.underlying t = some (.slice e) := by
      rintro ⟨h1, h2⟩
      obtain ⟨ti, ht, _, hkk, _⟩ := tknown_some h1
      obtain ⟨d, hd, hdesc⟩ := (hT t ti ht).desc
      unfold slTy at h2
      split at h2
      · rename_i e hk
        rw [hk] at hkk
        rw [← hkk] at hdesc
        simp only [TK.desc] at hdesc
        subst hdesc
        exact ⟨e, hd⟩
      · cases h2
    have hv : l ≠ [] → ∃ p n cap, v = .slice (some p) n cap := by
      intro hl
      cases hx with
      | nil => exact absurd rfl hl
      | seq => exact ⟨_, _, _, rfl⟩
    split at hp
    · obtain ⟨e, hu⟩ := key ⟨hp.1, hp.2.1⟩
      obtain ⟨p, n, cap, rfl⟩ := hv hp.2.2
      have heq : (Op.equal t (.slice (some p) n cap) (.slice none 0 0)).run P w = .ok false w := run_equalIn_nil0 hu 9999 (some p) n cap w
      exact ⟨w, .bool false, μ, .inl (by simp [eqGuard, binOp, heq]), h, .raw rfl⟩
    · obtain ⟨e, hu⟩ := key ⟨hp.1, hp.2.1⟩
      obtain ⟨p, n, cap, rfl⟩ := hv hp.2.2
      have heq : (Op.equal t (.slice (some p) n cap) (.slice none 0 0)).run P w = .ok false w := run_equalIn_nil0 hu 9999 (some p) n cap w
      exact ⟨w, .bool true, μ, .inl (by simp [eqGuard, binOp, heq]), h, .raw rfl⟩
    · exact hp.elim
  · exact binE_good h hx hy hp

end
end Go.Abs
end

section
/- The value layer, part 31 (between 12 and 13): clear; maps; bytes as a string. -/
namespace Go.Abs

section
variable {P : Program} {T : TT} (hT : TOK P T) {B : Base} {w : World} {a : Act} {s : St} {μ : Mu} (h : RelM B w a s μ)

include h in
/-- A row of cells is stored into a slice of a box. -/
theorem store_row {id ver off len : Nat} {b : Box} (hb : find s.mem id = some b) (hver : b.ver = ver) (hvar : b.var = false) (hlen : off + len ≤ b.els.length) {v : Value} (hv : Rep w (Yof B.X μ) μ (.sl id ver off len) v)
    {ys : List AV} {cs : Array Value} (hr : Row w (Yof B.X μ) Mu.none b.sz ys cs) (hys : ys.length ≤ len) (hpos : 0 < len) :
    ∃ g o cap w', v = .slice (some ⟨g, o, none⟩) len cap ∧ (storeCells ⟨g, o, none⟩ cs.toList).run P w = .ok () w' ∧ RelM B w' a ⟨s.env, (id, some { b with els := putEls b.els off ys }) :: s.mem⟩ μ := by
  obtain ⟨l, hm, hlv, hs, hh⟩ := h.inv.box id b hb
  cases hv with
  | slOld hm' hv' => rw [hm] at hm'; cases hm'; omega
  | slNil hm' hv' hnf => omega
  | sl hm' hv' hbk hc hfit hz =>
    rename_i cap loc g n
    rw [hm] at hm'; cases hm'
    obtain ⟨lv, lsz, l0, lb⟩ := l
    simp only at hlv hs hbk hv' hfit hz
    subst hlv hs hbk
    obtain ⟨hbig, hcell, _⟩ := hh
    obtain ⟨c, el, hw, hcs, hn, h1, hre⟩ := hcell hz
    simp only at hn hre
    have hsize := hr.size
    have e0 : (off + len) * b.sz ≤ b.els.length * b.sz := Nat.mul_le_mul_right _ hlen
    rw [Nat.add_mul] at e0
    have e1 : ys.length * b.sz ≤ len * b.sz := Nat.mul_le_mul_right _ hys
    have hfit2 : l0 + off * b.sz + cs.size ≤ c.size := by omega
    have hrun := run_storeCells_at P g (l0 + off * b.sz) el cs.toList 0 c w hw (by simpa using hfit2) (one_of_getD hr.one)
    simp only [Nat.add_zero, Array.length_toList] at hrun
    have hg' := setRow_heap w g c (c.toList.take (l0 + off * b.sz) ++ cs.toList ++ c.toList.drop (l0 + off * b.sz + cs.size)).toArray el (0, 0) hw
    have hsz : (c.toList.take (l0 + off * b.sz) ++ cs.toList ++ c.toList.drop (l0 + off * b.sz + cs.size)).toArray.size = c.size := by
      have := splice_size c (l0 + off * b.sz) cs.toList (by simpa using hfit2)
      simpa using this
    have hget := splice_get c (l0 + off * b.sz) cs hfit2
    generalize hC : (c.toList.take (l0 + off * b.sz) ++ cs.toList ++ c.toList.drop (l0 + off * b.sz + cs.size)).toArray = C at hrun hg' hsz hget
    have hlen2 := putEls_length (els := b.els) (ys := ys) (o := off) (by omega)
    refine ⟨g, l0 + off * b.sz, cap, w.setRow g C, rfl, hrun, ?_⟩
    have := RelM.rebox (w' := w.setRow g C) h id { b with els := putEls b.els off ys } ⟨b.ver, b.sz, l0, some (g, n)⟩ rfl rfl (later_same hm) (.inl hm) ⟨⟨rfl, Nat.le_refl _⟩, rfl, rfl⟩ (by simp)
      (fun g' _ hno => setRow_other w g g' _ (fun e => hno _ n hm (by rw [e]))) (fun g' n' hb' => .inl ⟨_, n', hm, hb'⟩) ?_
    · rw [upd_same hm] at this
      exact this
    · rw [upd_same hm]
      have hkeep : ∀ q, ¬ Yof B.X μ q → q < w.heap.size → ¬ Yof B.X μ q ∧ (w.setRow g C).heap[q]? = w.heap[q]? :=
        fun b' hy _ => ⟨hy, setRow_other w g b' _ (fun e => hy (.inr ⟨id, _, n, hm, by rw [e]⟩))⟩
      unfold Holds
      refine ⟨by show (putEls b.els off ys).length ≤ big; rw [hlen2]; exact hbig, fun _ => ⟨C, el, hg', hsz.trans hcs, by show l0 + (putEls b.els off ys).length * b.sz ≤ n; rw [hlen2]; exact hn, ?_, ?_⟩, fun h0 => absurd h0 hz⟩
      · intro j hj
        rw [hget j (by omega)]
        split
        · exact hr.one _ (by omega)
        · exact h1 j hj
      · intro i hi
        dsimp only at hi ⊢
        rw [hlen2] at hi
        have hfi := mul_lt_of_fit hi (Nat.le_refl (b.els.length * b.sz))
        simp only [hvar, Bool.false_eq_true, if_false]
        rw [putEls_get (by omega) hi]
        by_cases hin : off ≤ i ∧ i < off + ys.length
        · rw [if_pos hin]
          have hk := hr.rep (i - off) (by omega)
          refine ⟨hk.1, ?_⟩
          have hfk := mul_lt_of_fit (show i - off < ys.length by omega) (Nat.le_refl (ys.length * b.sz))
          have hea : i * b.sz = off * b.sz + (i - off) * b.sz := by rw [← Nat.add_mul]; congr 1; omega
          have := hk.2.mono hkeep (Mu.later.refl _)
          rw [elemVal_congr hk.1 (c' := C) (o' := l0 + i * b.sz) (by omega) (by omega) (fun j hj => ?_)] at this
          · exact this
          · rw [hget _ (by omega), if_pos (by omega)]
            congr 1
            omega
        · rw [if_neg hin]
          have hk := hre i hi
          rw [hvar] at hk
          simp only [Bool.false_eq_true, if_false] at hk
          refine ⟨hk.1, ?_⟩
          have hap : i * b.sz + b.sz ≤ off * b.sz ∨ off * b.sz + ys.length * b.sz ≤ i * b.sz := by
            by_cases hlt : i < off
            · exact .inl (mul_lt_of_fit hlt (Nat.le_refl _))
            · refine .inr ?_
              rw [← Nat.add_mul]
              exact Nat.mul_le_mul_right _ (by omega)
          have := hk.2.mono hkeep (Mu.later.refl _)
          rw [elemVal_congr hk.1 (c' := C) (o' := l0 + i * b.sz) (by omega) (by omega) (fun j hj => ?_)] at this
          · exact this
          · rw [hget _ (by omega), if_neg (by omega)]

/-! ### clear -/
def clearE (T : TT) (m : List (Nat × Option Box)) (t : Nat) (x : AV) : Out :=
  match tkind T t with
  | .slice e => match x with
    | .sl id ver off len => match find m id with
      | some b => ⟨tknown T t ∧ tknown T e ∧ b.ver = ver ∧ b.var = false ∧ off + len ≤ b.els.length ∧ b.sz = tsize T e ∧ (tzero T e).refs = [], .junk, [(id, some { b with els := putEls b.els off (List.replicate len (tzero T e)) })]⟩
      | none => bad
    | _ => bad
  | _ => bad

omit h in
theorem run_clear_none {t e : TypeId} (hd : P.underlying t = some (.slice e)) (p : Option Addr) (cap : Nat) (ty : TypeId) (w : World) : (Builtin.clear_ #[t] ty #[.slice p 0 cap]).run P w = .ok (.tuple #[]) w := by
  cases p <;> simp [Builtin.clear_, run_underlying hd]
omit h in
theorem run_clear_some {t e : TypeId} (hd : P.underlying t = some (.slice e)) {z : Value} (hz : ∀ w, (zeroValue e).run P w = .ok z w) (q : Addr) (n cap : Nat) (ty : TypeId) {w w' : World}
    (hs : (storeCells q (Builtin.zeroCells z.cells (n + 1)).toList).run P w = .ok () w') : (Builtin.clear_ #[t] ty #[.slice (some q) (n + 1) cap]).run P w = .ok (.tuple #[]) w' := by
  simp [Builtin.clear_, run_underlying hd, hz, hs]

include hT h in
theorem clearE_good {t : Nat} {x : AV} {v : Value} (hx : Rep w (Yof B.X μ) μ x v) (hp : (clearE T s.mem t x).pre) (ty : TypeId) :
    Good B w a s ((do pure (.value (← Builtin.clear_ #[t] ty #[v])) : Sem Next).run P w) (clearE T s.mem t x) := by
  unfold clearE at *
  split at hp
  · rename_i e hk
    split at hp
    · rename_i id ver off len
      split at hp
      · rename_i b hb
        obtain ⟨hkn, hke, hver, hvar, hlen, hsz, hzref⟩ := hp
        obtain ⟨ti, ht, _, hkk, _⟩ := tknown_some hkn
        obtain ⟨te, hte, hze, _, hzz⟩ := tknown_some hke
        have hkt := hT e te hte
        have hpos := hkt.pos
        obtain ⟨dd, hd, hdesc⟩ := (hT t ti ht).desc
        rw [hkk] at hk
        rw [hk] at hdesc
        simp only [TK.desc] at hdesc
        subst hdesc
        try simp only [hb]
        by_cases h0 : len = 0
        · subst h0
          have hv : ∃ p cap, v = .slice p 0 cap := by
            obtain ⟨l, hm, hlv, _⟩ := h.inv.box id b hb
            cases hx with
            | slOld hm' hv' => rw [hm] at hm'; cases hm'; omega
            | slNil hm' hv' hnf => exact ⟨_, _, rfl⟩
            | sl hm' hv' hbk hc hfit hz => exact ⟨_, _, rfl⟩
          obtain ⟨p, cap, rfl⟩ := hv
          refine ⟨w, .tuple #[], μ, .inl ?_, ?_, .junk⟩
          · rw [Sem.run_bind, run_clear_none hd]; rfl
          · simp only [List.replicate_zero, putEls_nil]
            exact relM_readd h hb
        · obtain ⟨z, hzr, hzc, hz1, hzcells, hzel⟩ := zero_elem hT hte
          rw [hzz] at hzref
          have hrow : Row w (Yof B.X μ) Mu.none te.size (List.replicate len te.zero) ((Array.range (len * te.size)).map (z.cells[· % z.cells.size]!)) :=
            zero_row hzc hpos hz1 hkt.width (refs_rep hzref (hzel w (Yof B.X μ) μ))
          have hsame : (Array.range (len * te.size)).map (z.cells[· % z.cells.size]!) = Builtin.zeroCells z.cells len := by
            unfold Builtin.zeroCells
            rw [hzc]
          rw [hsame, ← hze, ← hsz] at hrow
          obtain ⟨g, o, cap, w', rfl, hrun, hrel⟩ := store_row (P := P) h hb hver hvar hlen hx hrow (by simp) (by omega)
          obtain ⟨n, rfl⟩ : ∃ n, len = n + 1 := ⟨len - 1, by omega⟩
          refine ⟨w', .tuple #[], μ, .inl ?_, ?_, .junk⟩
          · rw [Sem.run_bind, run_clear_some hd hzr _ _ _ _ hrun]; rfl
          · rw [hzz]; exact hrel
      · exact hp.elim
    · exact hp.elim
  · exact hp.elim

/-! ### copy -/
theorem Cellsed.firstN {P : Program} {w : World} {Y : Nat → Prop} {sz : Nat} {l : List AV} {v : Value} (h : Cellsed w Y Mu.none sz l v) (n : Nat) (hn : n ≤ l.length) :
    ∃ cs : Array Value, (Builtin.firstCells sz n v).run P w = .ok cs w ∧ Row w Y Mu.none sz (l.take n) cs ∧ ∃ p cap, v = .slice p l.length cap := by
  have hlen : (l.take n).length = n := by simp; omega
  rcases h.out with ⟨rfl, p, cap, rfl⟩ | ⟨b, off, cap, c, el, fr, rfl, hw, hfit, h1, hr⟩
  · have : n = 0 := by simpa using hn
    subst this
    refine ⟨#[], ?_, ⟨by simp, by simp, by simp⟩, ⟨_, _, rfl⟩⟩
    cases p <;> simp [Builtin.firstCells, loadCells, loadCellsFrom]
  · have hle := Nat.mul_le_mul_right sz hn
    have hfit' : off + n * sz ≤ c.size := by omega
    have hsz : (c.extract off (off + n * sz)).size = n * sz := by simp; omega
    refine ⟨c.extract off (off + n * sz), by simp [Builtin.firstCells, run_loadCells_at hw hfit'], ⟨by rw [hsz, hlen], ?_, fun i hi => ?_⟩, ⟨_, _, rfl⟩⟩
    · intro j hj
      rw [hsz] at hj
      have : (c.extract off (off + n * sz)).getD j undef = c.getD (off + j) undef := by
        simp only [Array.getD_eq_getD_getElem?]
        rw [Array.getElem?_extract, if_pos (by omega)]
      rw [this]
      exact h1 _ (by omega) (by omega)
    · rw [hlen] at hi
      have hg : (l.take n).getD i .junk = l.getD i .junk := by simp [List.getD_eq_getElem?_getD, List.getElem?_take, hi]
      rw [hg]
      refine ⟨(hr i (by omega)).1, ?_⟩
      have hfi := mul_lt_of_fit hi (Nat.le_refl (n * sz))
      have hwid := (hr i (by omega)).1
      have hrep := (hr i (by omega)).2
      have hat : ∀ j, j < sz → (c.extract off (off + n * sz)).getD (i * sz + j) undef = c.getD (off + i * sz + j) undef := by
        intro j hj
        simp only [Array.getD_eq_getD_getElem?]
        rw [Array.getElem?_extract, if_pos (by omega)]
        congr 2
        omega
      rw [elemVal_congr hwid (c' := c) (o' := off + i * sz) (by omega) (by omega) hat]
      exact hrep

def copyE (T : TT) (m : List (Nat × Option Box)) (t : Nat) (x y : AV) : Out :=
  match tkind T t with
  | .slice e => match x with
    | .sl id ver off len => match find m id with
      | some b => ⟨tknown T t ∧ tknown T e ∧ b.ver = ver ∧ b.var = false ∧ off + len ≤ b.els.length ∧ b.sz = tsize T e ∧ (elems m y).1 ∧ (elems m y).2.1 = tsize T e,
          .raw (.int .i64 (min (elems m y).2.2.length len : Nat)), [(id, some { b with els := putEls b.els off ((elems m y).2.2.take len) })]⟩
      | none => bad
    | _ => bad
  | _ => bad

omit h in
theorem run_copy_out {t t' e : TypeId} {i : TypeInfo} (hd : P.underlying t = some (.slice e)) (hi : P.info? e = some i) (d : Option Addr) (dLen dCap : Nat) (p : Option Addr) (sLen sCap : Nat) {cs : Array Value} {w w' : World}
    (hc : (Builtin.firstCells i.size (min sLen dLen) (.slice p sLen sCap)).run P w = .ok cs w) (hs : ∀ q, d = some q → (storeCells q cs.toList).run P w = .ok () w') (hn : d = none → w' = w) (ty : TypeId) :
    (Builtin.copy_ #[t, t'] ty #[.slice d dLen dCap, .slice p sLen sCap]).run P w = .ok (goInt (min sLen dLen : Nat)) w' := by
  cases d with
  | none =>
    have := hn rfl
    subst this
    simp [Builtin.copy_, run_underlying hd, Builtin.lenOf, sizeOf, typeInfo, hi, Nat.min_def ▸ hc, hc]
  | some q => simp [Builtin.copy_, run_underlying hd, Builtin.lenOf, sizeOf, typeInfo, hi, hc, hs q rfl]

include hT h in
theorem copyE_good {t t' : Nat} {x y : AV} {v u : Value} (hx : Rep w (Yof B.X μ) μ x v) (hy : Rep w (Yof B.X μ) μ y u) (hp : (copyE T s.mem t x y).pre) (ty : TypeId) :
    Good B w a s ((do pure (.value (← Builtin.copy_ #[t, t'] ty #[v, u])) : Sem Next).run P w) (copyE T s.mem t x y) := by
  unfold copyE at *
  split at hp
  · rename_i e hk
    split at hp
    · rename_i id ver off len
      split at hp
      · rename_i b hb
        obtain ⟨hkn, hke, hver, hvar, hlen, hsz, hy1, hy2⟩ := hp
        obtain ⟨ti, ht, _, hkk, _⟩ := tknown_some hkn
        obtain ⟨te, hte, hze, _⟩ := tknown_some hke
        obtain ⟨dd, hd, hdesc⟩ := (hT t ti ht).desc
        rw [hkk] at hk
        rw [hk] at hdesc
        simp only [TK.desc] at hdesc
        subst hdesc
        obtain ⟨i, z, hi, hisz, _⟩ := (hT e te hte).info
        try simp only [hb]
        have hcy := elems_cellsed h hy hy1
        generalize hl : (elems s.mem y).2.2 = l at hcy ⊢
        obtain ⟨cs, hcs, hrow, p, cap, rfl⟩ := hcy.firstN (P := P) (min l.length len) (Nat.min_le_left _ _)
        rw [hy2, hze, ← hisz] at hcs
        have htk : l.take (min l.length len) = l.take len := by
          rcases Nat.le_total l.length len with h1 | h1
          · rw [Nat.min_eq_left h1, List.take_of_length_le (Nat.le_refl _), List.take_of_length_le h1]
          · rw [Nat.min_eq_right h1]
        rw [htk, hy2, ← hsz] at hrow
        by_cases h0 : len = 0
        · subst h0
          have hv : ∃ p cap, v = .slice p 0 cap := by
            obtain ⟨l, hm, hlv, _⟩ := h.inv.box id b hb
            cases hx with
            | slOld hm' hv' => rw [hm] at hm'; cases hm'; omega
            | slNil hm' hv' hnf => exact ⟨_, _, rfl⟩
            | sl hm' hv' hbk hc hfit hz => exact ⟨_, _, rfl⟩
          obtain ⟨q, qc, rfl⟩ := hv
          have hcs0 : cs = #[] := Array.eq_empty_of_size_eq_zero (by simpa using hrow.size)
          subst hcs0
          refine ⟨w, .int .i64 (min l.length 0 : Nat), μ, .inl ?_, ?_, .raw rfl⟩
          · rw [Sem.run_bind, run_copy_out (P := P) hd hi q 0 qc p l.length cap hcs (fun _ _ => rfl) (fun _ => rfl)]; rfl
          · simp only [List.take_zero, putEls_nil]
            exact relM_readd h hb
        · obtain ⟨g, o, qc, w', rfl, hrun, hrel⟩ := store_row (P := P) h hb hver hvar hlen hx hrow (by simp; omega) (by omega)
          refine ⟨w', .int .i64 (min l.length len : Nat), μ, .inl ?_, hrel, .raw rfl⟩
          rw [Sem.run_bind, run_copy_out (P := P) hd hi (some ⟨g, o, none⟩) len qc p l.length cap hcs (fun q hq => by cases hq; exact hrun) (fun hq => by cases hq)]; rfl
      · exact hp.elim
    · exact hp.elim
  · exact hp.elim

/-! ### maps -/
def akey : AV → Option Key
  | .raw (.string s) => some (.str s)
  | .agg [.raw (.int .i64 a), .raw (.int .i64 b)] => some (.two a b)
  | _ => none
def entK : AV → Option Key
  | .tup [k, _] => akey k
  | _ => none
def entW : AV → AV
  | .tup [_, v] => v
  | _ => .junk
def keysOK (kk : KK) : List AV → Bool
  | [] => true
  | e :: l => (match entK e with | some k => kk.fits k | none => false) && keysOK kk l
def mfind (k : Key) : List AV → Nat → Option (Nat × AV)
  | [], _ => none
  | e :: l, i => if entK e = some k then some (i, entW e) else mfind k l (i + 1)
def mput (k : Key) (e : AV) (l : List AV) : List AV := match mfind k l 0 with
  | some (i, _) => l.set i e
  | none => l ++ [e]
/-- The entries of a map. -/
def ments (m : List (Nat × Option Box)) : AV → Prop × List AV
  | .map l => (True, l)
  | .mp id ver => match find m id with
    | some b => (b.ver = ver, b.els)
    | none => (False, [])
  | _ => (False, [])

omit h in
theorem akey_rep {w : World} {Y : Nat → Prop} {μ : Mu} {x : AV} {v : Value} (h : Rep w Y μ x v) {k : Key} (hk : akey x = some k) : vkey v = some k ∧ x.refs = [] := by
  unfold akey at hk
  split at hk
  · cases hk
    obtain ⟨rfl, _⟩ := h.one
    exact ⟨rfl, by simp [AV.refs]⟩
  · rename_i a b
    cases hk
    cases h with
    | agg hs h1 hh =>
      rename_i cs
      have e0 := (hh 0 (by simp)).one.1
      have e1 := (hh 1 (by simp)).one.1
      refine ⟨?_, by simp [AV.refs, AV.refsL]⟩
      have hcs : cs = #[.int .i64 a, .int .i64 b] := by
        apply Array.ext'
        apply List.ext_getElem?
        intro i
        match i with
        | 0 => rw [← e0]; simp [Array.getD_eq_getD_getElem?, hs]
        | 1 => rw [← e1]; simp [Array.getD_eq_getD_getElem?, hs]
        | i + 2 => simp [hs]
      rw [hcs]
      rfl
  · cases hk
omit h in
theorem ent_rep {w : World} {Y : Nat → Prop} {μ : Mu} {e : AV} {x : MapEntry} (h : Rep w Y μ e (entP x)) {k : Key} (hk : entK e = some k) : vkey x.key = some k ∧ Rep w Y μ (entW e) x.val := by
  unfold entK at hk
  split at hk
  · rename_i a b
    unfold entP at h
    cases h with
    | tup hs hh =>
      have h0 := hh 0 (by simp)
      have h1 := hh 1 (by simp)
      simp only [List.getD_cons_zero, List.getD_cons_succ] at h0 h1
      exact ⟨(akey_rep h0 hk).1, h1⟩
  · cases hk
omit h in
theorem mfind_rep {w : World} {Y : Nat → Prop} {kk : KK} {k : Key} : ∀ {l : List AV} {es : List MapEntry}, es.length = l.length → (∀ i, i < l.length → Rep w Y Mu.none (l.getD i .junk) ((es.map entP).getD i undef)) → keysOK kk l = true → ∀ n,
    (mfind k l n = none ∧ vfindE k es n = none) ∨ ∃ j a v, mfind k l n = some (n + j, a) ∧ vfindE k es n = some (n + j, v) ∧ j < l.length ∧ Rep w Y Mu.none a v
  | [], [], _, _, _, n => .inl ⟨rfl, rfl⟩
  | [], _ :: _, hl, _, _, _ => by simp at hl
  | _ :: _, [], hl, _, _, _ => by simp at hl
  | e :: l, x :: es, hl, hr, hk, n => by
    simp only [keysOK, Bool.and_eq_true] at hk
    have h0 := hr 0 (by simp)
    simp only [List.getD_cons_zero, List.map_cons] at h0
    cases hke : entK e with
    | none => rw [hke] at hk; simp at hk
    | some k' =>
      obtain ⟨h1, h2⟩ := ent_rep h0 hke
      simp only [mfind, vfindE, hke, h1]
      by_cases hkk : k' = k
      · subst hkk
        simp only [if_true]
        exact .inr ⟨0, _, _, rfl, rfl, by simp, h2⟩
      · have : ¬ (some k' = some k) := fun e => hkk (Option.some.inj e)
        rw [if_neg this, if_neg this]
        rcases mfind_rep (k := k) (by simpa using hl) (fun i hi => by simpa using hr (i + 1) (by simpa using hi)) hk.2 (n + 1) with h3 | ⟨j, a, v, h3, h4, h5, h6⟩
        · exact .inl h3
        · exact .inr ⟨j + 1, a, v, by rw [h3]; congr 2; omega, by rw [h4]; congr 2; omega, by simp; omega, h6⟩
omit h in
theorem keysOK_rep {w : World} {Y : Nat → Prop} {kk : KK} : ∀ {l : List AV} {es : List MapEntry}, es.length = l.length → (∀ i, i < l.length → Rep w Y Mu.none (l.getD i .junk) ((es.map entP).getD i undef)) → keysOK kk l = true →
    ∀ x ∈ es, ∃ k', vkey x.key = some k' ∧ kk.fits k' = true
  | [], [], _, _, _, x, hx => by cases hx
  | [], _ :: _, hl, _, _, _, _ => by simp at hl
  | _ :: _, [], hl, _, _, _, _ => by simp at hl
  | e :: l, y :: es, hl, hr, hk, x, hx => by
    simp only [keysOK, Bool.and_eq_true] at hk
    have h0 := hr 0 (by simp)
    simp only [List.getD_cons_zero, List.map_cons] at h0
    rcases List.mem_cons.1 hx with rfl | hx
    · cases hke : entK e with
      | none => rw [hke] at hk; simp at hk
      | some k' =>
        rw [hke] at hk
        exact ⟨k', (ent_rep h0 hke).1, hk.1⟩
    · exact keysOK_rep (by simpa using hl) (fun i hi => by simpa using hr (i + 1) (by simpa using hi)) hk.2 x hx
omit h in
theorem entV_list (es : Array MapEntry) (i : Nat) : (es.toList.map entP).getD i undef = entV es i := by
  simp [entV, List.getD_eq_getElem?_getD, Array.getD_eq_getD_getElem?]

include h in
theorem ments_rep {x : AV} {v : Value} (hx : Rep w (Yof B.X μ) μ x v) (hp : (ments s.mem x).1) :
    ∃ g es clock, v = .map (some g) ∧ w.heap[g]? = some (.map es clock) ∧ Stamp es clock (ments s.mem x).2.length ∧ (ments s.mem x).2.length ≤ big ∧ ∀ i, i < (ments s.mem x).2.length → Rep w (Yof B.X μ) Mu.none ((ments s.mem x).2.getD i .junk) (entV es i) := by
  unfold ments at *
  split at hp
  · rename_i l
    cases hx with
    | map hY hb hs hbig hr => exact ⟨_, _, _, rfl, hb, hs, hbig, hr⟩
  · rename_i id ver
    split at hp
    · rename_i b hb
      have hver : b.ver = ver := hp
      obtain ⟨l, hm, hlv, hls, hh⟩ := h.inv.box id b hb
      try simp only [hb]
      cases hx with
      | mpOld hm' hv' => rw [hm] at hm'; cases hm'; omega
      | mp hm' hv' hbk hz =>
        rename_i loc g n
        rw [hm] at hm'; cases hm'
        unfold Holds at hh
        rw [hbk] at hh
        obtain ⟨hbig, _, hmp⟩ := hh
        obtain ⟨_, es, clock, hw, hs, hr⟩ := hmp (by rw [← hls]; exact hz)
        exact ⟨g, es, clock, rfl, hw, hs, hbig, hr⟩
    · exact hp.elim
  · exact hp.elim

include hT in
omit h in
theorem map_desc {t k e : Nat} {kk : KK} (hkn : tknown T t) (hk : tkind T t = .map k e kk) : P.underlying t = some (.map k e) ∧ KeyR P k kk := by
  obtain ⟨ti, ht, _, hkk, _⟩ := tknown_some hkn
  obtain ⟨dd, hd, hdesc⟩ := (hT t ti ht).desc
  rw [hkk] at hk
  rw [hk] at hdesc
  obtain ⟨rfl, h2⟩ := hdesc
  exact ⟨hd, h2⟩

def makeMapE (T : TT) (m : List (Nat × Option Box)) (d : Nat) (t : Nat) (r : Option AV) : Out :=
  match tkind T t with
  | .map _ _ _ => ⟨tknown T t ∧ (match r with | none => True | some (.raw (.int _ _)) => True | _ => False), .mp d (nver m d), [(d, some ⟨0, [], nver m d, false⟩)]⟩
  | _ => bad

include h in
/-- A new map is a new box. -/
theorem new_map (d : Nat) : RelM B (w.alloc (.map #[] 0)) a ⟨s.env, (d, some ⟨0, [], nver s.mem d, false⟩) :: s.mem⟩ (μ.upd d ⟨nver s.mem d, 0, 0, some (w.heap.size, 0)⟩) := by
  have hnew : ∀ g n, (⟨nver s.mem d, 0, 0, some (w.heap.size, 0)⟩ : Loc).blk = some (g, n) → w.heap.size ≤ g := by
    intro g n e
    simp only [Option.some.injEq, Prod.mk.injEq] at e
    omega
  refine RelM.rebox h d ⟨0, [], nver s.mem d, false⟩ ⟨nver s.mem d, 0, 0, some (w.heap.size, 0)⟩ rfl rfl (later_upd h.inv d _ (Nat.le_refl _)) (.inr (zero_upd h.inv d ⟨nver s.mem d, 0, 0, some (w.heap.size, 0)⟩ (Nat.le_refl _))) ⟨⟨rfl, Nat.le_refl _⟩, rfl, rfl⟩ (by simp) (fun g hg _ => alloc_old w _ hg)
    (fun g n e => .inr (hnew g n e)) ?_
  exact ⟨Nat.zero_le _, fun h0 => absurd rfl h0, fun _ => ⟨rfl, #[], 0, alloc_new w _, stamp_nil, fun i hi => by simp at hi⟩⟩

include hT h in
theorem makeMapE_good {d t : Nat} {r : Option AV} {r' : Option Value} (hr0 : r = none → r' = none) (hr : ∀ k n, r = some (.raw (.int k n)) → r' = some (.int k n)) (hp : (makeMapE T s.mem d t r).pre) :
    Good B w a s ((do pure (.value (← Instr.makeMap t r')) : Sem Next).run P w) (makeMapE T s.mem d t r) := by
  unfold makeMapE at *
  split at hp
  · rename_i k e kk hk
    obtain ⟨hkn, hp⟩ := hp
    obtain ⟨hd, _⟩ := map_desc hT hkn hk
    have hrep := Rep.mp (w := w.alloc (.map #[] 0)) (Y := Yof B.X (μ.upd d ⟨nver s.mem d, 0, 0, some (w.heap.size, 0)⟩)) (μ := μ.upd d ⟨nver s.mem d, 0, 0, some (w.heap.size, 0)⟩) (id := d) (ver := nver s.mem d)
      (loc := ⟨nver s.mem d, 0, 0, some (w.heap.size, 0)⟩) (by simp [Mu.upd]) rfl rfl rfl
    refine ⟨_, _, _, .inl ?_, new_map h d, hrep⟩
    split at hp
    · rw [hr0 rfl]
      simp [Instr.makeMap]
    · rw [hr _ _ rfl]
      simp [Instr.makeMap, run_underlying hd, asInt, asIntOf]
    · exact hp.elim
  · exact hp.elim

def mlenE (T : TT) (m : List (Nat × Option Box)) (t : Nat) (x : AV) : Out := puts (tknown T t ∧ (ments m x).1) (.raw (.int .i64 (ments m x).2.length))

include hT h in
theorem mlenE_good {t k e : Nat} {kk : KK} (hk : tkind T t = .map k e kk) {x : AV} {v : Value} (hx : Rep w (Yof B.X μ) μ x v) (hp : (mlenE T s.mem t x).pre) (ty : TypeId) :
    Good B w a s ((do pure (.value (← Builtin.len_ #[t] ty #[v])) : Sem Next).run P w) (mlenE T s.mem t x) := by
  obtain ⟨hkn, hp⟩ := hp
  obtain ⟨hd, _⟩ := map_desc hT hkn hk
  obtain ⟨g, es, clock, rfl, hw, hs, _⟩ := ments_rep h hx hp
  refine ⟨w, .int .i64 (ments s.mem x).2.length, μ, .inl ?_, h, .raw rfl⟩
  simp [Builtin.len_, run_underlying hd, MapKept.run_getObj_map hw, goInt, hs.1]

def lookE (T : TT) (m : List (Nat × Option Box)) (t : Nat) (x ix : AV) (ok : Bool) : Out :=
  match tkind T t with
  | .map _ e kk => match akey ix with
    | some k => puts (tknown T t ∧ tknown T e ∧ (ments m x).1 ∧ keysOK kk (ments m x).2 = true ∧ kk.fits k = true)
        (match mfind k (ments m x).2 0 with
          | some (_, v) => if ok then .tup [v, .raw (.bool true)] else v
          | none => if ok then .tup [tzero T e, .raw (.bool false)] else tzero T e)
    | none => bad
  | _ => bad

omit h in
theorem rep_two {w : World} {Y : Nat → Prop} {μ : Mu} {x y : AV} {u v : Value} (hx : Rep w Y μ x u) (hy : Rep w Y μ y v) : Rep w Y μ (.tup [x, y]) (.tuple #[u, v]) := by
  refine .tup rfl fun i hi => ?_
  match i, hi with
  | 0, _ => exact hx
  | 1, _ => exact hy

include hT h in
theorem lookE_good {t : Nat} {x ix : AV} {v u : Value} {ok : Bool} (hx : Rep w (Yof B.X μ) μ x v) (hix : Rep w (Yof B.X μ) μ ix u) (hp : (lookE T s.mem t x ix ok).pre) :
    Good B w a s ((do pure (.value (← Instr.lookup t v u ok)) : Sem Next).run P w) (lookE T s.mem t x ix ok) := by
  unfold lookE at *
  split at hp
  · rename_i kt e kk hk
    split at hp
    · rename_i k hkey
      obtain ⟨hkn, hke, hm, hks, hfit⟩ := hp
      obtain ⟨hd, hR⟩ := map_desc hT hkn hk
      obtain ⟨te, hte, _, _, hzz⟩ := tknown_some hke
      obtain ⟨g, es, clock, rfl, hw, hs, _, hr⟩ := ments_rep h hx hm
      have hvk := (akey_rep hix hkey).1
      have hr' : ∀ i, i < (ments s.mem x).2.length → Rep w (Yof B.X μ) Mu.none ((ments s.mem x).2.getD i .junk) ((es.toList.map entP).getD i undef) := fun i hi => by rw [entV_list]; exact hr i hi
      have hkeys := keysOK_rep (kk := kk) (es := es.toList) (by simpa using hs.1) hr' hks
      have hfind := hR.fnd u k es.toList w hvk hfit hkeys
      have hchk := hR.chk es.isEmpty u k w hvk hfit
      obtain ⟨z, hz, _, _, hzrep⟩ := (hT e te hte).run_zero w
      try simp only [hkey]
      rcases mfind_rep (k := k) (es := es.toList) (by simpa using hs.1) hr' hks 0 with ⟨h1, h2⟩ | ⟨j, av, vv, h1, h2, _, h4⟩
      · rw [h2] at hfind
        rw [h1]
        cases ok with
        | true => exact ⟨w, .tuple #[z, .bool false], μ, .inl (by simp [Instr.lookup, run_underlying hd, MapKept.run_getObj_map hw, hchk, hfind, hz]), h, by rw [hzz]; exact rep_two (hzrep _ _ _) (.raw rfl)⟩
        | false => exact ⟨w, z, μ, .inl (by simp [Instr.lookup, run_underlying hd, MapKept.run_getObj_map hw, hchk, hfind, hz]), h, by rw [hzz]; exact hzrep _ _ _⟩
      · rw [h2] at hfind
        rw [h1]
        have h5 := h4.mono (μ' := μ) (w' := w) (Y' := Yof B.X μ) (fun b hy _ => ⟨hy, rfl⟩) (Mu.none_later μ)
        cases ok with
        | true => exact ⟨w, .tuple #[vv, .bool true], μ, .inl (by simp [Instr.lookup, run_underlying hd, MapKept.run_getObj_map hw, hchk, hfind]), h, rep_two h5 (.raw rfl)⟩
        | false => exact ⟨w, vv, μ, .inl (by simp [Instr.lookup, run_underlying hd, MapKept.run_getObj_map hw, hchk, hfind]), h, h5⟩
    · exact hp.elim
  · exact hp.elim

def mupdE (T : TT) (m : List (Nat × Option Box)) (t : Nat) (x ix v : AV) : Out :=
  match tkind T t with
  | .map _ e kk => match x, akey ix with
    | .mp id ver, some k => match find m id with
      | some b => ⟨tknown T t ∧ b.ver = ver ∧ b.sz = 0 ∧ keysOK kk b.els = true ∧ kk.fits k = true ∧ b.els.length < big ∧ (nrm T e v).refs = [], .junk, [(id, some { b with els := mput k (.tup [ix, nrm T e v]) b.els })]⟩
      | none => bad
    | _, _ => bad
  | _ => bad

omit h in
theorem entV_push (es : Array MapEntry) (x : MapEntry) (i : Nat) : entV (es.push x) i = if i = es.size then entP x else entV es i := by
  simp only [entV, Array.getD_eq_getD_getElem?, Array.getElem?_map, Array.getElem?_push]
  split <;> simp
omit h in
theorem entV_modify (es : Array MapEntry) (j : Nat) (f : MapEntry → MapEntry) (hj : j < es.size) (i : Nat) : entV (es.modify j f) i = if i = j then entP (f es[j]) else entV es i := by
  simp only [entV, Array.getD_eq_getD_getElem?, Array.getElem?_map, Array.getElem?_modify]
  by_cases h : i = j
  · subst h; simp [hj]
  · simp [h, Ne.symm h]

include hT h in
theorem mupdE_good {t : Nat} {x ix y : AV} {v u q : Value} (hx : Rep w (Yof B.X μ) μ x v) (hix : Rep w (Yof B.X μ) μ ix u) (hy : Rep w (Yof B.X μ) μ y q) (hp : (mupdE T s.mem t x ix y).pre) :
    Good B w a s ((do Instr.mapUpdate t v u q; pure .skip : Sem Next).run P w) (mupdE T s.mem t x ix y) := by
  unfold mupdE at *
  split at hp
  · rename_i kt e kk hk
    split at hp
    · rename_i id ver k hkey
      split at hp
      · rename_i b hb
        obtain ⟨hkn, hver, hsz, hks, hfit, hlt, hrf⟩ := hp
        obtain ⟨hd, hR⟩ := map_desc hT hkn hk
        have hm : (ments s.mem (.mp id ver)).1 := by simp only [ments, hb]; exact hver
        obtain ⟨g, es, clock, rfl, hw, hs, hbig, hr⟩ := ments_rep h hx hm
        have hme : (ments s.mem (.mp id ver)).2 = b.els := by simp only [ments, hb]
        rw [hme] at hs hbig hr
        obtain ⟨hvk, hixr⟩ := akey_rep hix hkey
        have hr' : ∀ i, i < b.els.length → Rep w (Yof B.X μ) Mu.none (b.els.getD i .junk) ((es.toList.map entP).getD i undef) := fun i hi => by rw [entV_list]; exact hr i hi
        have hkeys := keysOK_rep (kk := kk) (es := es.toList) (by simpa using hs.1) hr' hks
        have hfind := hR.fnd u k es.toList w hvk hfit hkeys
        have hchk := hR.chk false u k w hvk hfit
        have hent : ∀ n : Nat, Rep w (Yof B.X μ) Mu.none (.tup [ix, nrm T e y]) (entP ⟨u, q, n⟩) := fun n => rep_two (hix.pure hixr _) ((rep_nrm (T := T) (t := e) hy).pure hrf _)
        -- the box behind any change of the entries
        have hbox : ∀ (es' : Array MapEntry) (clock' : Nat) (els' : List AV), Stamp es' clock' els'.length → els'.length ≤ big → (∀ i, i < els'.length → Rep w (Yof B.X μ) Mu.none (els'.getD i .junk) (entV es' i)) →
            RelM B { w with heap := w.heap.setIfInBounds g (.map es' clock') } a ⟨s.env, (id, some { b with els := els' }) :: s.mem⟩ μ := by
          intro es' clock' els' h1 h2 h3
          obtain ⟨l, hml, hlv, hls, hh⟩ := h.inv.box id b hb
          obtain ⟨hs1, hs2⟩ := MapKept.heap_set (o' := Obj.map es' clock') hw
          cases hx with
          | mpOld hm' hv' => rw [hml] at hm'; cases hm'; omega
          | mp hm' hv' hbk hz =>
            rename_i loc n
            rw [hml] at hm'; cases hm'
            have := RelM.rebox (w' := { w with heap := w.heap.setIfInBounds g (.map es' clock') }) h id { b with els := els' } l hlv hls (later_same hml) (.inl hml) ⟨⟨rfl, Nat.le_refl _⟩, rfl, rfl⟩ (by simp)
              (fun g' _ hno => hs2 g' (fun e => hno _ n hml (by rw [e]; exact hbk))) (fun g' n' hb' => .inl ⟨_, n', hml, hb'⟩) ?_
            · rw [upd_same hml] at this
              exact this
            · rw [upd_same hml]
              unfold Holds at hh ⊢
              rw [hbk] at hh ⊢
              have hv0 := (hh.2.2 hsz).1
              refine ⟨h2, fun h0 => absurd hsz h0, fun _ => ⟨hv0, es', clock', hs1, h1, fun i hi => (h3 i hi).mono (fun p hp _ => ⟨hp, hs2 p (fun e => hp (.inr ⟨id, l, n, hml, by rw [e]; exact hbk⟩))⟩) (Mu.later.refl _)⟩⟩
        try simp only [hkey, hb]
        rcases mfind_rep (k := k) (es := es.toList) (by simpa using hs.1) hr' hks 0 with ⟨h1, h2⟩ | ⟨j, av, vv, h1, h2, hj, _⟩
        · rw [h2] at hfind
          have hmp : mput k (.tup [ix, nrm T e y]) b.els = b.els ++ [.tup [ix, nrm T e y]] := by simp only [mput, h1]
          rw [hmp]
          refine ⟨_, undef, μ, .inr ⟨?_, rfl⟩, hbox (es.push ⟨u, q, clock⟩) (clock + 1) _ (by have := stamp_push hs u q; simpa using this) (by simp; omega) (fun i hi => ?_), .junk⟩
          · simp [Instr.mapUpdate, run_underlying hd, MapKept.run_getObj_map hw, hchk, hfind, MapKept.run_setObj_map _ hw]
          · rw [entV_push]
            by_cases hi2 : i = es.size
            · rw [if_pos hi2]
              have : (b.els ++ [AV.tup [ix, nrm T e y]]).getD i .junk = .tup [ix, nrm T e y] := by simp [List.getD_eq_getElem?_getD, hi2, hs.1]
              rw [this]
              exact hent clock
            · rw [if_neg hi2]
              have hi3 : i < b.els.length := by have := hs.1; simp at hi; omega
              have : (b.els ++ [AV.tup [ix, nrm T e y]]).getD i .junk = b.els.getD i .junk := by simp [List.getD_eq_getElem?_getD, List.getElem?_append, hi3]
              rw [this]
              exact hr i hi3
        · rw [h2] at hfind
          rw [Nat.zero_add] at h1 h2 hfind
          have hmp : mput k (.tup [ix, nrm T e y]) b.els = b.els.set j (.tup [ix, nrm T e y]) := by simp only [mput, h1]
          rw [hmp]
          have hj2 : j < es.size := by have := hs.1; omega
          have hold : vkey es[j].key = some k := by
            have hx2 : es.toList[j]? = some es[j] := by simp [hj2]
            have : ∀ (l : List MapEntry) (n j : Nat) (vv : Value), vfindE k l n = some (n + j, vv) → ∀ x, l[j]? = some x → vkey x.key = some k := by
              intro l
              induction l with
              | nil => intro n j vv h; cases h
              | cons a l ih =>
                intro n j vv hf x hx
                simp only [vfindE] at hf
                split at hf
                · rename_i hkk
                  simp only [Option.some.injEq, Prod.mk.injEq] at hf
                  have : j = 0 := by omega
                  subst this
                  simp at hx
                  subst hx
                  exact hkk
                · have hjn : j ≠ 0 := by
                    intro e
                    subst e
                    have hge : ∀ (l : List MapEntry) (n i : Nat) (vv : Value), vfindE k l n = some (i, vv) → n ≤ i := by
                      intro l
                      induction l with
                      | nil => intro n i vv h; cases h
                      | cons a l ih =>
                        intro n i vv h
                        simp only [vfindE] at h
                        split at h
                        · simp only [Option.some.injEq, Prod.mk.injEq] at h; omega
                        · have := ih _ _ _ h; omega
                    have := hge _ _ _ _ hf
                    omega
                  obtain ⟨j', rfl⟩ : ∃ j', j = j' + 1 := ⟨j - 1, by omega⟩
                  exact ih (n + 1) j' vv (by rw [hf]; congr 2; omega) x (by simpa using hx)
            exact this es.toList 0 j vv (by rw [h2, Nat.zero_add]) es[j] hx2
          have hstay := hR.stay es[j].key u k w hold hvk hfit
          refine ⟨_, undef, μ, .inr ⟨?_, rfl⟩, hbox (es.modify j fun x => { x with key := u, val := q }) clock _ (by have := stamp_modify hs j (fun x => { x with key := u, val := q }) (fun _ => rfl); simpa using this) (by simpa using hbig) (fun i hi => ?_), .junk⟩
          · simp [Instr.mapUpdate, run_underlying hd, MapKept.run_getObj_map hw, hchk, hfind, hj2, hstay, MapKept.run_setObj_map _ hw]
          · have hi' : i < b.els.length := by simpa using hi
            rw [entV_modify es j _ hj2]
            by_cases hi2 : i = j
            · subst hi2
              rw [if_pos rfl]
              have : (b.els.set i (AV.tup [ix, nrm T e y])).getD i .junk = .tup [ix, nrm T e y] := by simp [List.getD_eq_getElem?_getD, hi']
              rw [this]
              exact hent _
            · rw [if_neg hi2]
              have : (b.els.set j (AV.tup [ix, nrm T e y])).getD i .junk = b.els.getD i .junk := by simp [List.getD_eq_getElem?_getD, List.getElem?_set, Ne.symm hi2]
              rw [this]
              exact hr i hi'
      · exact hp.elim
    · exact hp.elim
  · exact hp.elim

/-! ### bytes as a string -/
def bytesOf : List AV → Option (List Int)
  | [] => some []
  | .raw (.int .u8 n) :: l => (bytesOf l).map (n :: ·)
  | _ => none
def strOf (ns : List Int) : ByteArray := ns.foldl (fun r n => r.push (UInt8.ofNat n.toNat)) ByteArray.empty
def convB (T : TT) (m : List (Nat × Option Box)) (src dst : Nat) (x : AV) : Out :=
  match tkind T src with
  | .slice e => match tkind T e with
    | .int .u8 => match bytesOf (elems m x).2.2 with
      | some ns => puts (tknown T src ∧ tknown T e ∧ tknown T dst ∧ (elems m x).1 ∧ (elems m x).2.1 = 1) (.raw (.string (strOf ns)))
      | none => bad
    | _ => bad
  | _ => bad
def convX (T : TT) (m : List (Nat × Option Box)) (src dst : Nat) (x : AV) : Out :=
  match tkind T dst with
  | .str => convB T m src dst x
  | _ => convE T src dst x

omit h in
theorem bytesOf_cells {w : World} {Y : Nat → Prop} {c : Array Value} : ∀ {l : List AV} {ns : List Int} {off : Nat}, bytesOf l = some ns → off + l.length ≤ c.size → (∀ i, i < l.length → Rep w Y Mu.none (l.getD i .junk) (c.getD (off + i) undef)) →
    ∀ i, i < l.length → c.getD (off + i) undef = .int .u8 (ns.getD i 0)
  | [], ns, off, _, _, _, i, hi => by simp at hi
  | .raw (.int .u8 n) :: l, ns, off, hb, hc, hr, i, hi => by
    simp only [bytesOf, Option.map_eq_some_iff] at hb
    obtain ⟨ns', hb, rfl⟩ := hb
    cases i with
    | zero =>
      have := hr 0 (by simp)
      simp only [List.getD_cons_zero] at this
      simpa using this.one.1
    | succ i =>
      have := bytesOf_cells (w := w) (Y := Y) (c := c) (l := l) (ns := ns') (off := off + 1) hb (by simp at hc; omega) (fun k hk => by
        have := hr (k + 1) (by simpa using hk)
        simpa [Nat.add_assoc, Nat.add_comm 1 k] using this) i (by simpa using hi)
      simpa [Nat.add_assoc, Nat.add_comm 1 i] using this
omit h in
theorem bytesOf_length : ∀ {l : List AV} {ns : List Int}, bytesOf l = some ns → ns.length = l.length
  | [], ns, h => by simp only [bytesOf, Option.some.injEq] at h; subst h; rfl
  | a :: l, ns, h => by
    unfold bytesOf at h
    split at h
    · rename_i e; cases e
    · rename_i n l' e
      cases e
      simp only [Option.map_eq_some_iff] at h
      obtain ⟨ns', h, rfl⟩ := h
      simp [bytesOf_length h]
    · cases h
omit h in
theorem bytesOf_width : ∀ {l : List AV} {ns : List Int}, bytesOf l = some ns → ∀ i, i < l.length → ∃ n, l.getD i .junk = .raw (.int .u8 n)
  | [], ns, h, i, hi => by simp at hi
  | a :: l, ns, h, i, hi => by
    unfold bytesOf at h
    split at h
    · rename_i e; cases e
    · rename_i n l' e
      cases e
      simp only [Option.map_eq_some_iff] at h
      obtain ⟨ns', h, rfl⟩ := h
      cases i with
      | zero => exact ⟨n, rfl⟩
      | succ i => simpa using bytesOf_width h i (by simpa using hi)
    · cases h

include hT h in
theorem convX_good {src dst : Nat} {x : AV} {v : Value} (hx : Rep w (Yof B.X μ) μ x v) (hp : (convX T s.mem src dst x).pre) :
    Good B w a s ((do pure (.value (← convert src dst v)) : Sem Next).run P w) (convX T s.mem src dst x) := by
  unfold convX at *
  split at hp
  · rename_i hdst
    try simp only [hdst]
    unfold convB at *
    split at hp
    · rename_i e hk
      split at hp
      · rename_i hke
        split at hp
        · rename_i ns hns
          obtain ⟨h1, h2, h3, hel, hsz⟩ := hp
          obtain ⟨ti, ht, _, hkk, _⟩ := tknown_some h1
          obtain ⟨te, hte, _, hkke, _⟩ := tknown_some h2
          obtain ⟨td, htd, _, hkkd, _⟩ := tknown_some h3
          obtain ⟨d1, hd1, hdesc1⟩ := (hT src ti ht).desc
          obtain ⟨d2, hd2, hdesc2⟩ := (hT e te hte).desc
          obtain ⟨d3, hd3, hdesc3⟩ := (hT dst td htd).desc
          rw [hkk] at hk
          rw [hk] at hdesc1
          rw [hkke] at hke
          rw [hke] at hdesc2
          rw [hkkd] at hdst
          rw [hdst] at hdesc3
          simp only [TK.desc] at hdesc1 hdesc2 hdesc3
          subst hdesc1 hdesc2 hdesc3
          have hcl := elems_cellsed h hx hel
          rw [hsz] at hcl
          try simp only [hns]
          generalize (elems s.mem x).2.2 = l at hns hcl
          refine ⟨w, .string (strOf ns), μ, .inl ?_, h, .raw rfl⟩
          have hlen := bytesOf_length hns
          rcases hcl.out with ⟨rfl, p, cap, rfl⟩ | ⟨b, off, cap, c, el, fr, rfl, hw, hfit, hone, hr⟩
          · have hns0 : ns = [] := List.eq_nil_of_length_eq_zero (by simpa using hlen)
            subst hns0
            rw [Sem.run_bind, run_convert_bytes_string w src dst e p 0 cap hd1 hd2 hd3]
            cases p with
            | none => simp [Conv.bytesToString, strOf]
            | some q => rw [run_bytesToString w q 0 cap [] (by simp [loadCells, loadCellsFrom])]; rfl
          · rw [Sem.run_bind, run_convert_bytes_string w src dst e _ _ cap hd1 hd2 hd3]
            rw [Nat.mul_one] at hfit
            have hcell := bytesOf_cells (w := w) (Y := Yof B.X μ) (c := c) (off := off) hns hfit (fun i hi => by
              have h4 := (hr i hi).2
              obtain ⟨n, hn⟩ := bytesOf_width hns i hi
              rw [hn] at h4 ⊢
              simpa [elemVal] using h4)
            rw [run_bytesToString w ⟨b, off, none⟩ l.length cap ns]
            · rfl
            · rw [run_loadCells_at hw hfit]
              congr 1
              apply Array.ext'
              apply List.ext_getElem?
              intro j
              simp only [List.getElem?_map, Array.getElem?_toList, Array.getElem?_extract]
              by_cases hj : j < l.length
              · have h5 := hcell j hj
                have h6 : off + j < c.size := by omega
                have h7 : j < ns.length := by omega
                simp [Array.getD_eq_getD_getElem?, h6, List.getD_eq_getElem?_getD, h7] at h5
                have h8 : j < min (off + l.length) c.size - off := by omega
                rw [if_pos h8]
                simp [h6, h7, h5]
              · have h7 : ¬ j < ns.length := by omega
                have h8 : ¬ j < min (off + l.length) c.size - off := by omega
                rw [if_neg h8]
                simp [h7]
        · exact hp.elim
      · exact hp.elim
    · exact hp.elim
  · rename_i hdst
    have := convE_good hT h hx hp
    exact this

end
end Go.Abs
end

section
/- The value layer, part 13: one operation of a region, and on what it hangs. -/
namespace Go.Abs

structure AOper where
  dst : Option Nat
  op : Op
  ty : Nat
  guard : Option (Nat × Bool)

def cv : Value → AV
  | .agg _ => .junk
  | .tuple _ => .junk
  | v => .raw v

def ev (e : List (Nat × AV)) : Operand → AV
  | .tmp t => get e t
  | .const v => cv v
  | .global _ => .junk
  | .func f => .fn f [] []

/-- A value without its condition. -/
def st : AV → AV
  | .maybe _ a => a
  | a => a
def sg : AV → Prop
  | .maybe g _ => g = true
  | _ => True

theorem rep_st {w : World} {Y : Nat → Prop} {μ : Mu} {a : AV} {v : Value} (h : Rep w Y μ a v) (hs : sg a) : Rep w Y μ (st a) v := by
  cases h with
  | maybe h0 h => exact h hs
  | raw h => exact .raw h
  | agg h0 h1 h => exact .agg h0 h1 h
  | tup h0 h => exact .tup h0 h
  | nil => exact .nil
  | seq hY hb hc hf hbig hfit hw h1 h => exact .seq hY hb hc hf hbig hfit hw h1 h
  | ipt hY hb hfit h1 h => exact .ipt hY hb hfit h1 h
  | pt hm hv hb hz => exact .pt hm hv hb hz
  | ptOld hm hv => exact .ptOld hm hv
  | slNil hm hv hnf => exact .slNil hm hv hnf
  | sl hm hv hb hc hfit hz => exact .sl hm hv hb hc hfit hz
  | mp hm hv hb hz => exact .mp hm hv hb hz
  | mpOld hm hv => exact .mpOld hm hv
  | map hY hb h0 hbig h => exact .map hY hb h0 hbig h
  | slOld hm hv => exact .slOld hm hv
  | fn h0 ht h k => exact .fn h0 ht h k
  | junk => exact .junk

theorem st_refs (a : AV) : (st a).refs = a.refs := by cases a <;> simp [st, AV.refs]

theorem rep_ev {B : Base} {w : World} {a : Act} {s : St} {μ : Mu} (h : RelM B w a s μ) (x : Operand) : Rep w (Yof B.X μ) μ (ev s.env x) (a.eval x) := by
  cases x with
  | tmp t => exact h.env t
  | const v =>
    simp only [ev, Act.eval]
    unfold cv
    split
    · exact .junk
    · exact .junk
    · rename_i h1 h2
      refine .raw ?_
      cases v with
      | agg cs => exact absurd rfl (h1 cs)
      | tuple cs => exact absurd rfl (h2 cs)
      | _ => rfl
  | global g => exact .junk
  | func f => exact .fn rfl rfl (fun i hi => absurd hi (by simp)) (fun i hi => absurd hi (by simp))

def lenB (T : TT) (m : List (Nat × Option Box)) (t : Nat) (x : AV) : Out :=
  match tkind T t with
  | .map _ _ _ => mlenE T m t x
  | _ => ⟨(lenE T t x).pre ∧ lenOK m x, (lenE T t x).val, (lenE T t x).up⟩

def builtinE (T : TT) (m : List (Nat × Option Box)) (d : Nat) (b : Builtin) (ts : List Nat) (xs : List AV) : Out :=
  match b, ts, xs with
  | .len, [t], [x] => lenB T m t x
  | .append, [t, t'], [x, y] => appE T m d t t' x y
  | .max, _, [x, y] => minE true [x, y]
  | .min, _, [x, y] => minE false [x, y]
  | .cap, [t], [x] => capE T t x
  | .clear, [t], [x] => clearE T m t x
  | .copy, [t, _], [x, y] => copyE T m t x y
  | _, _, _ => bad

/-- All operations but calls of functions. -/
def opE (T : TT) (O : List Nat) (m : List (Nat × Option Box)) (d ty : Nat) (e : List (Nat × AV)) (op : Op) : Out :=
  match op with
  | .move x => moveE T m d ty (st (ev e x))
  | .assign x => moveE T m d ty (st (ev e x))
  | .pick c a b => pickE (st (ev e c)) (ev e a) (ev e b)
  | .box t x => boxE T m d t (st (ev e x))
  | .alloc t => allocE T m d t
  | .build t parts => buildE T m t (parts.toList.map fun p => (p.1, st (ev e p.2)))
  | .buildSlice t len parts => sliceLitE T m (O.contains d) d t len (parts.toList.map fun p => (p.1, st (ev e p.2)))
  | .load t x => loadE T m t (st (ev e x))
  | .store t x y => storeE T m t (st (ev e x)) (st (ev e y))
  | .nilCheck x => nilE m (st (ev e x))
  | .binOp op t x y _ => cmpE T op t (st (ev e x)) (st (ev e y))
  | .unOp op _ x => unE op (st (ev e x))
  | .convert s t x => convX T m s t (st (ev e x))
  | .makeFunc fn f c => fnE fn (f.toList.map fun x => st (ev e x)) (c.toList.map fun x => st (ev e x))
  | .makeSlice t x y => makeE T m d t (st (ev e x)) (st (ev e y))
  | .makeMap t r => makeMapE T m d t (r.map fun x => st (ev e x))
  | .mapUpdate t x k v => mupdE T m t (st (ev e x)) (st (ev e k)) (st (ev e v))
  | .insert t x k v => mupdE T m t (st (ev e x)) (st (ev e k)) (st (ev e v))
  | .lookup t x k ok => lookE T m t (st (ev e x)) (st (ev e k)) ok
  | .slice t x lo hi mx => sliceE T m t (st (ev e x)) (lo.map fun x => st (ev e x)) (hi.map fun x => st (ev e x)) (mx.map fun x => st (ev e x))
  | .fieldAddr t x k => fieldE T m t (st (ev e x)) k
  | .field t x k => partE T t (st (ev e x)) k
  | .indexAddr t x i => indexE T m t (st (ev e x)) (st (ev e i))
  | .index t x i => elemE T t (st (ev e x)) (st (ev e i))
  | .extract x k => tupE (st (ev e x)) k
  | .call c => match c.callee with
    | .builtin b => builtinE T m d b c.argTypes.toList (c.args.toList.map fun x => st (ev e x))
    | _ => bad
  | _ => bad

/-- The operands whose conditions must hold. -/
def firm : Op → List Operand
  | .pick c _ _ => [c]
  | .build _ parts => parts.toList.map (·.2)
  | .buildSlice _ _ parts => parts.toList.map (·.2)
  | op => op.operands.toList

def firms (e : List (Nat × AV)) : List Operand → Prop
  | [] => True
  | x :: l => sg (ev e x) ∧ firms e l

theorem firms_mem {e : List (Nat × AV)} : ∀ {l : List Operand}, firms e l → ∀ x ∈ l, sg (ev e x)
  | [], _, x, h => by cases h
  | y :: l, h, x, hx => by
    cases hx with
    | head => exact h.1
    | tail _ hx => exact firms_mem h.2 x hx

section
variable {P : Program} {T : TT} (hT : TOK P T) {B : Base} {w : World} {a : Act} {s : St} {μ : Mu} (h : RelM B w a s μ)

theorem Good.eq {B : Base} {w : World} {a : Act} {s : St} {r r' : Result Next} {o : Out} (hg : Good B w a s r o) (e : r = r') : Good B w a s r' o := e ▸ hg

include hT h in
theorem opE_good {O : List Nat} {o : Oper} {d : Nat} (hf : firms s.env (firm o.op)) (hp : (opE T O s.mem d o.type s.env o.op).pre) :
    Good B w a s ((execOp a.eval o).run P w) (opE T O s.mem d o.type s.env o.op) := by
  have hx : ∀ x ∈ firm o.op, Rep w (Yof B.X μ) μ (st (ev s.env x)) (a.eval x) := fun x hx => rep_st (rep_ev h x) (firms_mem hf x hx)
  obtain ⟨dst, op, type, pos, after, guard⟩ := o
  simp only at hf hp hx ⊢
  cases op with
  | move x =>
    have h1 := hx x (by simp [firm, Op.operands])
    exact (moveE_good h h1).eq (by simp [execOp])
  | assign x =>
    have h1 := hx x (by simp [firm, Op.operands])
    exact (moveE_good h h1).eq (by simp [execOp])
  | pick c x y =>
    have h1 := hx c (by simp [firm])
    exact (pickE_good (P := P) h h1 (rep_ev h x) (rep_ev h y) hp).eq (by simp [execOp])
  | box t x =>
    have h1 := hx x (by simp [firm, Op.operands])
    exact (boxE_good hT h h1 hp).eq (by simp [execOp])
  | alloc t => exact (allocE_good hT h hp).eq (by simp [execOp])
  | build t parts =>
    refine (buildE_good hT h (vals := parts.map fun (i, x) => (i, a.eval x)) (by simp) (fun i p q h1 h2 => ?_) hp).eq (by simp [execOp])
    simp only [List.getElem?_map, Array.getElem?_toList, Array.getElem?_map, Option.map_eq_some_iff] at h1 h2
    obtain ⟨p', e1, rfl⟩ := h1
    obtain ⟨q', e2, rfl⟩ := h2
    rw [e1] at e2
    cases e2
    refine ⟨rfl, hx p'.2 ?_⟩
    simp only [firm, List.mem_map, Array.mem_toList_iff]
    exact ⟨p', Array.mem_of_getElem? e1, rfl⟩
  | buildSlice t len parts =>
    refine (sliceLitE_good hT h (vals := parts.map fun (i, x) => (i, a.eval x)) (by simp) (fun i p q h1 h2 => ?_) hp).eq (by simp [execOp])
    simp only [List.getElem?_map, Array.getElem?_toList, Array.getElem?_map, Option.map_eq_some_iff] at h1 h2
    obtain ⟨p', e1, rfl⟩ := h1
    obtain ⟨q', e2, rfl⟩ := h2
    rw [e1] at e2
    cases e2
    refine ⟨rfl, hx p'.2 ?_⟩
    simp only [firm, List.mem_map, Array.mem_toList_iff]
    exact ⟨p', Array.mem_of_getElem? e1, rfl⟩
  | load t x =>
    have h1 := hx x (by simp [firm, Op.operands])
    exact (loadE_good hT h h1 hp).eq (by simp [execOp])
  | store t x y =>
    have h1 := hx x (by simp [firm, Op.operands])
    have h2 := hx y (by simp [firm, Op.operands])
    exact (storeE_good hT h h1 h2 hp).eq (by simp [execOp])
  | nilCheck x =>
    have h1 := hx x (by simp [firm, Op.operands])
    exact nilE_good h (o := ⟨dst, .nilCheck x, type, pos, after, guard⟩) (y := x) rfl h1 hp
  | binOp op t x y yt =>
    have h1 := hx x (by simp [firm, Op.operands])
    have h2 := hx y (by simp [firm, Op.operands])
    exact (cmpE_good hT h (ox := x) (oy := y) h1 h2 hp).eq (by simp [execOp])
  | unOp op t x =>
    have h1 := hx x (by simp [firm, Op.operands])
    exact (unE_good (P := P) h h1 hp).eq (by simp [execOp])
  | convert t t' x =>
    have h1 := hx x (by simp [firm, Op.operands])
    exact (convX_good hT h h1 hp).eq (by simp [execOp])
  | makeFunc fn f c =>
    refine (fnE_good (P := P) h (fs := f.map a.eval) (cs := c.map a.eval) (by simp) (by simp) (fun i hi => ?_) (fun i hi => ?_) hp).eq (by simp [execOp])
    · have hi' : i < f.size := by simpa using hi
      have := hx f[i] (by simp [firm, Op.operands])
      simpa [List.getD_eq_getElem?_getD, Array.getD_eq_getD_getElem?, hi'] using this
    · have hi' : i < c.size := by simpa using hi
      have := hx c[i] (by simp [firm, Op.operands])
      simpa [List.getD_eq_getElem?_getD, Array.getD_eq_getD_getElem?, hi'] using this
  | makeMap t r =>
    refine (makeMapE_good hT h (r' := r.map a.eval) ?_ ?_ hp).eq (by simp [execOp])
    · intro e; cases r <;> simp at e ⊢
    · intro k i e
      cases r with
      | none => simp at e
      | some l => simp at e; have := hx l (by simp [firm, Op.operands]); rw [e] at this; simp [this.one.1]
  | mapUpdate t x k v =>
    have h1 := hx x (by simp [firm, Op.operands])
    have h2 := hx k (by simp [firm, Op.operands])
    have h3 := hx v (by simp [firm, Op.operands])
    exact (mupdE_good hT h h1 h2 h3 hp).eq (by simp [execOp])
  | insert t x k v =>
    have h1 := hx x (by simp [firm, Op.operands])
    have h2 := hx k (by simp [firm, Op.operands])
    have h3 := hx v (by simp [firm, Op.operands])
    exact (mupdE_good hT h h1 h2 h3 hp).eq (by simp [execOp])
  | lookup t x k ok =>
    have h1 := hx x (by simp [firm, Op.operands])
    have h2 := hx k (by simp [firm, Op.operands])
    exact (lookE_good hT h h1 h2 hp).eq (by simp [execOp])
  | makeSlice t x y =>
    have h1 := hx x (by simp [firm, Op.operands])
    have h2 := hx y (by simp [firm, Op.operands])
    exact (makeE_good hT h h1 h2 hp).eq (by simp [execOp])
  | slice t x lo hi mx =>
    have h1 := hx x (by simp [firm, Op.operands])
    refine (sliceE_good hT h (lo' := lo.map a.eval) (hi' := hi.map a.eval) (mx' := mx.map a.eval) h1 ?_ ?_ ?_ ?_ ?_ ?_ hp).eq (by simp [execOp])
    · intro k i e
      cases lo with
      | none => simp at e
      | some l => simp at e; have := hx l (by simp [firm, Op.operands]); rw [e] at this; simp [this.one.1]
    · intro e; cases lo <;> simp at e ⊢
    · intro k i e
      cases hi with
      | none => simp at e
      | some l => simp at e; have := hx l (by simp [firm, Op.operands]); rw [e] at this; simp [this.one.1]
    · intro e; cases hi <;> simp at e ⊢
    · intro k i e
      cases mx with
      | none => simp at e
      | some l => simp at e; have := hx l (by simp [firm, Op.operands]); rw [e] at this; simp [this.one.1]
    · intro e; cases mx <;> simp at e ⊢
  | fieldAddr t x k =>
    have h1 := hx x (by simp [firm, Op.operands])
    exact (fieldE_good hT h h1 hp).eq (by simp [execOp])
  | field t x k =>
    have h1 := hx x (by simp [firm, Op.operands])
    exact (partE_good hT h h1 hp).eq (by simp [execOp])
  | indexAddr t x i =>
    have h1 := hx x (by simp [firm, Op.operands])
    have h2 := hx i (by simp [firm, Op.operands])
    exact (indexE_good hT h h1 h2 hp).eq (by simp [execOp])
  | index t x i =>
    have h1 := hx x (by simp [firm, Op.operands])
    have h2 := hx i (by simp [firm, Op.operands])
    exact (elemE_good hT h h1 h2 hp).eq (by simp [execOp])
  | extract x k =>
    have h1 := hx x (by simp [firm, Op.operands])
    exact (tupE_good (P := P) h h1 hp).eq (by simp [execOp])
  | call c =>
    obtain ⟨callee, args, argTypes⟩ := c
    cases callee with
    | value f => exact hp.elim
    | invoke r m => exact hp.elim
    | builtin b =>
      obtain ⟨al⟩ := args
      obtain ⟨tl⟩ := argTypes
      have ha : ∀ x ∈ al, Rep w (Yof B.X μ) μ (st (ev s.env x)) (a.eval x) := fun x hx' => hx x (by simp [firm, Op.operands, Call.operands, hx'])
      simp only [opE] at hp ⊢
      unfold builtinE at hp ⊢
      split at hp
      · rename_i xs t x he2
        cases al with
        | nil => simp at he2
        | cons y l =>
          cases l with
          | cons => simp at he2
          | nil =>
            simp only [List.map_cons, List.map_nil, List.cons.injEq, and_true] at he2
            subst he2
            unfold lenB at hp ⊢
            split at hp
            · rename_i k e kk hk
              try simp only [hk]
              exact (mlenE_good hT h hk (ha y (by simp)) hp type).eq (by simp [execOp, resolve, invoke, builtin])
            · obtain ⟨hp1, hp2⟩ := hp
              have := lenE_good hT h (ha y (by simp)) hp2 hp1 #[t] rfl type
              obtain ⟨w', v, μ', hr, hrel, hrep⟩ := this
              refine ⟨w', v, μ', ?_, hrel, hrep⟩
              simpa [execOp, resolve, invoke, builtin] using hr
      · rename_i xs t t' x y he2
        cases al with
        | nil => simp at he2
        | cons p l =>
          cases l with
          | nil => simp at he2
          | cons q l =>
            cases l with
            | cons => simp at he2
            | nil =>
              simp only [List.map_cons, List.map_nil, List.cons.injEq, and_true] at he2
              obtain ⟨rfl, rfl⟩ := he2
              have := appE_good hT h (ha p (by simp)) (ha q (by simp)) hp type
              exact this.eq (by simp [execOp, resolve, invoke, builtin])
      · rename_i tl b' ts' xs' x y he2
        cases al with
        | nil => simp at he2
        | cons p l =>
          cases l with
          | nil => simp at he2
          | cons q l =>
            cases l with
            | cons => simp at he2
            | nil =>
              simp only [List.map_cons, List.map_nil, List.cons.injEq, and_true] at he2
              obtain ⟨rfl, rfl⟩ := he2
              have := minE_good (P := P) h (mx := true) (ha p (by simp)) (ha q (by simp)) hp ⟨tl⟩ type
              exact this.eq (by simp [execOp, resolve, invoke, builtin])
      · rename_i tl b' ts' xs' x y he2
        cases al with
        | nil => simp at he2
        | cons p l =>
          cases l with
          | nil => simp at he2
          | cons q l =>
            cases l with
            | cons => simp at he2
            | nil =>
              simp only [List.map_cons, List.map_nil, List.cons.injEq, and_true] at he2
              obtain ⟨rfl, rfl⟩ := he2
              have := minE_good (P := P) h (mx := false) (ha p (by simp)) (ha q (by simp)) hp ⟨tl⟩ type
              exact this.eq (by simp [execOp, resolve, invoke, builtin])
      · rename_i xs t x he2
        cases al with
        | nil => simp at he2
        | cons y l =>
          cases l with
          | cons => simp at he2
          | nil =>
            simp only [List.map_cons, List.map_nil, List.cons.injEq, and_true] at he2
            subst he2
            have := capE_good hT h (ha y (by simp)) hp #[t] rfl type
            exact this.eq (by simp [execOp, resolve, invoke, builtin])
      · rename_i xs t x he2
        cases al with
        | nil => simp at he2
        | cons y l =>
          cases l with
          | cons => simp at he2
          | nil =>
            simp only [List.map_cons, List.map_nil, List.cons.injEq, and_true] at he2
            subst he2
            have := clearE_good hT h (ha y (by simp)) hp type
            exact this.eq (by simp [execOp, resolve, invoke, builtin])
      · rename_i xs t t' x y he2
        cases al with
        | nil => simp at he2
        | cons p l =>
          cases l with
          | nil => simp at he2
          | cons q l =>
            cases l with
            | cons => simp at he2
            | nil =>
              simp only [List.map_cons, List.map_nil, List.cons.injEq, and_true] at he2
              obtain ⟨rfl, rfl⟩ := he2
              have := copyE_good hT h (t' := t') (ha p (by simp)) (ha q (by simp)) hp type
              exact this.eq (by simp [execOp, resolve, invoke, builtin])
      · exact hp.elim
  | _ => exact hp.elim
end

end Go.Abs
end

section
/- The value layer, part 14: calls of functions, and the step of one operation. -/
namespace Go.Abs

/- what a value is for somebody who cannot see the boxes -/
mutual
def snap (m : List (Nat × Option Box)) : AV → AV
  | .seq sz l _ => .seq sz l false
  | .sl id _ off len => match find m id with
    | some b => .seq b.sz (rng b.els off len) false
    | none => .junk
  | .pt id _ idx o => match find m id with
    | some b => .ipt (nth b.els idx) o
    | none => .junk
  | .agg l => .agg (snapL m l)
  | .tup l => .tup (snapL m l)
  | .fn f a b => .fn f (snapL m a) (snapL m b)
  | .maybe g a => .maybe g (snap m a)
  | .raw v => .raw v
  | .ipt e o => .ipt e o
  | .mp id _ => match find m id with
    | some b => .map b.els
    | none => .junk
  | .map l => .map l
  | .junk => .junk
def snapL (m : List (Nat × Option Box)) : List AV → List AV
  | [] => []
  | a :: l => snap m a :: snapL m l
end

mutual
def snapOK (m : List (Nat × Option Box)) : AV → Prop
  | .sl id ver off len => match find m id with
    | some b => b.ver = ver ∧ b.var = false ∧ off + len ≤ b.els.length
    | none => False
  | .pt id ver idx _ => match find m id with
    | some b => b.ver = ver ∧ idx < b.els.length ∧ (nth b.els idx).refs = []
    | none => False
  | .agg l => snapOKL m l
  | .tup l => snapOKL m l
  | .fn _ a b => snapOKL m a ∧ snapOKL m b
  | .maybe _ a => snapOK m a
  | .mp id ver => match find m id with
    | some b => b.ver = ver
    | none => False
  | _ => True
def snapOKL (m : List (Nat × Option Box)) : List AV → Prop
  | [] => True
  | a :: l => snapOK m a ∧ snapOKL m l
end

theorem snapL_length {m : List (Nat × Option Box)} : ∀ {l : List AV}, (snapL m l).length = l.length
  | [] => rfl
  | a :: l => by simp [snapL, snapL_length]
theorem snapL_get {m : List (Nat × Option Box)} : ∀ {l : List AV} {i : Nat}, i < l.length → (snapL m l).getD i .junk = snap m (l.getD i .junk)
  | a :: l, 0, _ => by simp [snapL]
  | a :: l, i + 1, h => by simpa [snapL] using snapL_get (l := l) (i := i) (by simpa using h)
theorem snapOKL_get {m : List (Nat × Option Box)} : ∀ {l : List AV} {i : Nat}, snapOKL m l → i < l.length → snapOK m (l.getD i .junk)
  | a :: l, 0, h, _ => by simpa using h.1
  | a :: l, i + 1, h, hi => by simpa using snapOKL_get (l := l) (i := i) h.2 (by simpa using hi)

theorem rep_snap {w : World} {Y X : Nat → Prop} {m : List (Nat × Option Box)} {μ : Mu} {a : AV} {v : Value} (h : Rep w Y μ a v) :
    (∀ b, ¬ Y b → ¬ X b) → Inv w X μ m → snapOK m a → Rep w X Mu.none (snap m a) v := by
  induction h with
  | raw h => intro hYX hi ho; exact .raw h
  | agg h0 h1 h ih =>
    intro hYX hi ho
    refine .agg (by rw [snapL_length]; exact h0) (fun i hi' => h1 i (by rwa [snapL_length] at hi')) (fun i hi' => ?_)
    rw [snapL_length] at hi'
    rw [snapL_get hi']
    exact ih i hi' hYX hi (snapOKL_get ho hi')
  | tup h0 h ih =>
    intro hYX hi ho
    refine .tup (by rw [snapL_length]; exact h0) (fun i hi' => ?_)
    rw [snapL_length] at hi'
    rw [snapL_get hi']
    exact ih i hi' hYX hi (snapOKL_get ho hi')
  | nil => intro _ _ _; exact .nil
  | seq hY hb hc hf hbig hfit hw h1 h ih =>
    intro hYX hi ho
    exact .seq (hYX _ hY) hb hc (fun h => by cases h) hbig hfit hw h1 fun i hi' => (h i hi').mono (fun b hy _ => ⟨hYX b hy, rfl⟩) (Mu.later.refl _)
  | ipt hY hb hfit h1 h ih =>
    intro hYX hi ho
    exact .ipt (hYX _ hY) hb hfit h1 (h.mono (fun b hy _ => ⟨hYX b hy, rfl⟩) (Mu.later.refl _))
  | pt hm hv hbk hz =>
    rename_i μ id ver idx sub loc g n
    intro hYX hi ho
    simp only [snapOK, snap] at ho ⊢
    cases hf : find m id with
    | none => rw [hf] at ho; exact ho.elim
    | some b =>
      rw [hf] at ho
      obtain ⟨hver, hidx, hrf⟩ := ho
      obtain ⟨l, hm', hlv, hls, hh⟩ := hi.box id b hf
      rw [hm] at hm'; cases hm'
      obtain ⟨lv, lsz, l0, lb⟩ := loc
      simp only at hlv hls hbk hv hz
      subst hlv hls hbk
      obtain ⟨hbig, hcell, _⟩ := hh
      obtain ⟨c, el, hw, hcs, hn, h1, hr⟩ := hcell hz
      simp only at hn hr
      have hri := hr idx hidx
      have hfi := mul_lt_of_fit hidx (Nat.le_refl (b.els.length * b.sz))
      have hrep := (hri.2.pure hrf Mu.none).mono (Y' := X) (w' := w) (fun q hy _ => ⟨fun hx => hy (.inl hx), rfl⟩) (Mu.later.refl _)
      have hwid : (nth b.els idx).width = b.sz := hri.1
      exact Rep.ipt (off := l0 + idx * b.sz) (e := nth b.els idx) (hi.out g ⟨id, _, n, hm, rfl⟩) hw (by rw [hwid]; omega) (fun j hj1 hj2 => h1 j (by rw [hwid] at hj2; omega)) (by rw [hwid]; exact hrep)
  | ptOld hm hv =>
    rename_i μ id ver idx sub loc v
    intro hYX hi ho
    simp only [snapOK] at ho
    cases hf : find m id with
    | none => rw [hf] at ho; exact ho.elim
    | some b =>
      rw [hf] at ho
      obtain ⟨l, hm', hlv, hls, hh⟩ := hi.box id b hf
      rw [hm] at hm'; cases hm'
      have := ho.1
      omega
  | slNil hm hv hnf =>
    rename_i μ id ver off loc p
    intro hYX hi ho
    simp only [snapOK, snap] at ho ⊢
    cases hf : find m id with
    | none => rw [hf] at ho; exact ho.elim
    | some b =>
      rw [hf] at ho
      obtain ⟨l, hm', hlv, hls, hh⟩ := hi.box id b hf
      rw [hm] at hm'; cases hm'
      simp only
      have : rng b.els off 0 = [] := by rw [rng_eq]; simp
      rw [this]
      exact .nil
  | sl hm hv hbk hc hfit hz =>
    rename_i μ id ver off len cap loc g n
    intro hYX hi ho
    simp only [snapOK, snap] at ho ⊢
    cases hf : find m id with
    | none => rw [hf] at ho; exact ho.elim
    | some b =>
      rw [hf] at ho
      obtain ⟨hver, hvar, hlen⟩ := ho
      obtain ⟨l, hm', hlv, hls, hh⟩ := hi.box id b hf
      rw [hm] at hm'; cases hm'
      obtain ⟨lv, lsz, l0, lb⟩ := loc
      simp only at hlv hls hbk hv hfit hz
      subst hlv hls hbk
      obtain ⟨hbig, hcell, _⟩ := hh
      obtain ⟨c, el, hw, hcs, hn, h1, hr⟩ := hcell hz
      simp only at hn hr
      have hl : (rng b.els off len).length = len := by rw [rng_eq]; simp; omega
      have e0 : (off + len) * b.sz ≤ b.els.length * b.sz := Nat.mul_le_mul_right _ hlen
      rw [Nat.add_mul] at e0
      have hget : ∀ i, i < len → (rng b.els off len).getD i .junk = b.els.getD (off + i) .junk := by
        intro i hi'
        rw [rng_eq]
        simp only [List.getD_eq_getElem?_getD]
        rw [List.getElem?_take, if_pos hi', List.getElem?_drop]
      have := Rep.seq (w := w) (Y := X) (μ := Mu.none) (sz := b.sz) (l := rng b.els off len) (full := false) (b := g) (off := l0 + off * b.sz) (cap := cap) (hi.out g ⟨id, _, n, hm, rfl⟩) hw (by rw [hl]; exact hc) (fun h => by cases h)
        (by rw [hl]; omega) (by rw [hl]; omega) (fun i hi' => by rw [hl] at hi'; rw [hget i hi']; exact (hr (off + i) (by omega)).1)
        (fun j hj1 hj2 => h1 j (by rw [hl] at hj2; omega)) (fun i hi' => by
          rw [hl] at hi'
          rw [hget i hi']
          have := (hr (off + i) (by omega)).2
          rw [hvar] at this
          simp only [Bool.false_eq_true, if_false] at this
          rw [Nat.add_assoc, ← Nat.add_mul]
          exact this.mono (fun q hy _ => ⟨fun hx => hy (.inl hx), rfl⟩) (Mu.later.refl _))
      rw [hl] at this
      exact this
  | slOld hm hv =>
    rename_i μ id ver off len loc v
    intro hYX hi ho
    simp only [snapOK] at ho
    cases hf : find m id with
    | none => rw [hf] at ho; exact ho.elim
    | some b =>
      rw [hf] at ho
      obtain ⟨l, hm', hlv, hls, hh⟩ := hi.box id b hf
      rw [hm] at hm'; cases hm'
      have := ho.1
      omega
  | fn h0 ht h k ih ik =>
    intro hYX hi ho
    refine .fn (by rw [snapL_length]; exact h0) (by rw [snapL_length]; exact ht) (fun i hi' => ?_) (fun i hi' => ?_)
    · rw [snapL_length] at hi'
      rw [snapL_get hi']
      exact ih i hi' hYX hi (snapOKL_get ho.1 hi')
    · rw [snapL_length] at hi'
      rw [snapL_get hi']
      exact ik i hi' hYX hi (snapOKL_get ho.2 hi')
  | mp hm hv hbk hz =>
    rename_i μ id ver loc g n
    intro hYX hi ho
    simp only [snapOK, snap] at ho ⊢
    cases hf : find m id with
    | none => rw [hf] at ho; exact ho.elim
    | some b =>
      obtain ⟨l, hm', hlv, hls, hh⟩ := hi.box id b hf
      rw [hm] at hm'; cases hm'
      unfold Holds at hh
      rw [hbk] at hh
      obtain ⟨hbig, _, hmp⟩ := hh
      obtain ⟨_, es, clock, hw, hs, hr⟩ := hmp (by rw [← hls]; exact hz)
      exact .map (hi.out g ⟨id, _, n, hm, hbk⟩) hw hs hbig fun k hk => (hr k hk).mono (fun q hy _ => ⟨fun hx => hy (.inl hx), rfl⟩) (Mu.later.refl _)
  | mpOld hm hv =>
    rename_i μ id ver loc v
    intro hYX hi ho
    simp only [snapOK] at ho
    cases hf : find m id with
    | none => rw [hf] at ho; exact ho.elim
    | some b =>
      rw [hf] at ho
      obtain ⟨l, hm', hlv, hls, hh⟩ := hi.box id b hf
      rw [hm] at hm'; cases hm'
      have : b.ver = ver := ho
      omega
  | map hY hb hs hbig h ih =>
    intro hYX hi ho
    exact .map (hYX _ hY) hb hs hbig fun k hk => (h k hk).mono (fun b hy _ => ⟨hYX b hy, rfl⟩) (Mu.later.refl _)
  | maybe h0 h ih => intro hYX hi ho; exact .maybe h0 fun g => ih g hYX hi ho
  | junk => intro _ _ _; exact .junk

end Go.Abs
end

section
/- The value layer, part 15: the contract of a function; the step of one operation; on what it hangs. -/
namespace Go.Abs

/-- A function of the program's own that can be entered. -/
def Enter (P : Program) (f : FuncId) : Prop := ∃ fn, P.funcs[f]? = some fn ∧ fn.name ≠ "runtime.NumGoroutine" ∧ fn.body ≠ none

def Noblk : Nat → Prop := fun _ => False

/-- THE CONTRACT: on values that read so, in whatever world, the function returns what reads so, and leaves all that there was as it was. -/
def CallP (P : Program) (f : FuncId) (args : List AV) (r : AV) : Prop :=
  Enter P f ∧ ∀ (w : World) (X : Nat → Prop) (vs : Array Value), (∀ b, X b → b < w.heap.size) → vs.size = args.length →
    (∀ i, i < args.length → Rep w X Mu.none (args.getD i .junk) (vs.getD i undef)) →
    Calls P f vs w fun e w' => ∃ v, e = .returned v ∧ Grows w w' ∧ Rep w' X Mu.none r v

mutual
/-- A value without addresses. -/
def flat : AV → Bool
  | .raw _ => true
  | .agg l => flatL l
  | .tup l => flatL l
  | _ => false
def flatL : List AV → Bool
  | [] => true
  | a :: l => flat a && flatL l
end

theorem flatL_get : ∀ {l : List AV} {i : Nat}, flatL l = true → i < l.length → flat (l.getD i .junk) = true
  | a :: l, 0, h, _ => by simp [flatL] at h; simpa using h.1
  | a :: l, i + 1, h, hi => by simp [flatL] at h; simpa using flatL_get (l := l) (i := i) h.2 (by simpa using hi)

theorem Rep.flat {w w' : World} {Y Y' : Nat → Prop} {μ : Mu} {a : AV} {v : Value} (h : Rep w Y μ a v) : ∀ (μ' : Mu), Go.Abs.flat a = true → Rep w' Y' μ' a v := by
  induction h with
  | raw h => intro μ' _; exact .raw h
  | agg h0 h1 h ih => intro μ' hf; exact .agg h0 h1 fun i hi => ih i hi μ' (flatL_get (by simpa [Go.Abs.flat] using hf) hi)
  | tup h0 h ih => intro μ' hf; exact .tup h0 fun i hi => ih i hi μ' (flatL_get (by simpa [Go.Abs.flat] using hf) hi)
  | _ => intro μ' hf; simp [Go.Abs.flat] at hf

theorem refsL_get : ∀ {l : List AV} {i : Nat}, AV.refsL l = [] → i < l.length → (l.getD i .junk).refs = []
  | a :: l, 0, h, _ => by simp [AV.refsL] at h; simpa using h.1
  | a :: l, i + 1, h, hi => by simp [AV.refsL] at h; simpa using refsL_get (l := l) (i := i) h.2 (by simpa using hi)

theorem rep_snap_pure {w : World} {Y : Nat → Prop} {m : List (Nat × Option Box)} {μ : Mu} {a : AV} {v : Value} (h : Rep w Y μ a v) : a.refs = [] → Rep w Y Mu.none (snap m a) v := by
  induction h with
  | raw h => intro _; exact .raw h
  | agg h0 h1 h ih =>
    intro hr
    refine .agg (by rw [snapL_length]; exact h0) (fun i hi' => h1 i (by rwa [snapL_length] at hi')) (fun i hi' => ?_)
    rw [snapL_length] at hi'
    rw [snapL_get hi']
    exact ih i hi' (refsL_get (by simpa [AV.refs] using hr) hi')
  | tup h0 h ih =>
    intro hr
    refine .tup (by rw [snapL_length]; exact h0) (fun i hi' => ?_)
    rw [snapL_length] at hi'
    rw [snapL_get hi']
    exact ih i hi' (refsL_get (by simpa [AV.refs] using hr) hi')
  | nil => intro _; exact .nil
  | seq hY hb hc hf hbig hfit hw h1 h ih => intro hr; exact .seq hY hb hc (fun h => by cases h) hbig hfit hw h1 h
  | ipt hY hb hfit h1 h ih => intro hr; exact .ipt hY hb hfit h1 h
  | pt => intro hr; simp [AV.refs] at hr
  | ptOld => intro hr; simp [AV.refs] at hr
  | slNil => intro hr; simp [AV.refs] at hr
  | sl => intro hr; simp [AV.refs] at hr
  | slOld => intro hr; simp [AV.refs] at hr
  | mp => intro hr; simp [AV.refs] at hr
  | mpOld => intro hr; simp [AV.refs] at hr
  | map hY hb hs hbig h ih => intro hr; exact .map hY hb hs hbig h
  | fn h0 ht h k ih ik =>
    intro hr
    simp only [AV.refs, List.append_eq_nil_iff] at hr
    refine .fn (by rw [snapL_length]; exact h0) (by rw [snapL_length]; exact ht) (fun i hi' => ?_) (fun i hi' => ?_)
    · rw [snapL_length] at hi'
      rw [snapL_get hi']
      exact ih i hi' (refsL_get hr.1 hi')
    · rw [snapL_length] at hi'
      rw [snapL_get hi']
      exact ik i hi' (refsL_get hr.2 hi')
  | maybe h0 h ih => intro hr; exact .maybe h0 fun g => ih g (by simpa [AV.refs] using hr)
  | junk => intro _; exact .junk

def tgt (a : AV) (args : List AV) : Option (FuncId × List AV) :=
  match a with
  | .fn f p q => some (f, p ++ args ++ q)
  | _ => none

def nrmL (T : TT) : List Nat → List AV → List AV
  | t :: ts, x :: xs => nrm T t x :: nrmL T ts xs
  | _, xs => xs

theorem nrmL_length {T : TT} : ∀ {ts : List Nat} {xs : List AV}, (nrmL T ts xs).length = xs.length
  | [], xs => by simp [nrmL]
  | t :: ts, [] => by simp [nrmL]
  | t :: ts, x :: xs => by simp [nrmL, nrmL_length]

theorem nrmL_rep {T : TT} {w : World} {Y : Nat → Prop} {μ : Mu} : ∀ {ts : List Nat} {xs : List AV} {vs : List Value}, (∀ i, i < xs.length → Rep w Y μ (xs.getD i .junk) (vs.getD i undef)) →
    ∀ i, i < xs.length → Rep w Y μ ((nrmL T ts xs).getD i .junk) (vs.getD i undef)
  | [], xs, vs, h => by simpa [nrmL] using h
  | t :: ts, [], vs, h => by intro i hi; simp at hi
  | t :: ts, x :: xs, vs, h => by
    intro i hi
    cases i with
    | zero => simpa [nrmL] using rep_nrm (T := T) (t := t) (by simpa using h 0 (by simp))
    | succ i =>
      have := nrmL_rep (T := T) (ts := ts) (xs := xs) (vs := vs.drop 1) (fun k hk => by
        have := h (k + 1) (by simpa using hk)
        simpa [List.getD_eq_getElem?_getD, List.getElem?_drop, Nat.add_comm 1 k] using this) i (by simpa using hi)
      simpa [nrmL, List.getD_eq_getElem?_getD, List.getElem?_drop, Nat.add_comm 1 i] using this

/-- What is asked at a call. -/
def CallOK (P : Program) (T : TT) (e : List (Nat × AV)) (m : List (Nat × Option Box)) (f : Operand) (ts : List Nat) (xs : List Operand) (r : AV) : Prop :=
  match tgt (st (ev e f)) (nrmL T ts (xs.map fun x => st (ev e x))) with
  | some (g, as) => CallP P g (snapL m as) r ∧ snapOKL m as ∧ (AV.refsL as = [] ∨ flat r = true)
  | none => False

/-- What an operation gives, its condition taken for granted. -/
def StepOK (P : Program) (T : TT) (O : List Nat) (o : AOper) (e : List (Nat × AV)) (m : List (Nat × Option Box)) (v : AV) (up : List (Nat × Option Box)) : Prop :=
  firms e (firm o.op) ∧
  match o.op with
  | .call ⟨.value f, args, ts⟩ => CallOK P T e m f ts.toList args.toList v ∧ up = []
  | op => (opE T O m (o.dst.getD 0) o.ty e op).pre ∧ v = (opE T O m (o.dst.getD 0) o.ty e op).val ∧ up = (opE T O m (o.dst.getD 0) o.ty e op).up

/-- The condition of a guarded operation, if it is known. -/
def guardOf (a : AV) (want : Bool) : Option Bool :=
  match a with
  | .raw (.bool b) => some (b == want)
  | .maybe h (.raw (.bool b)) => some (h && (b == want))
  | _ => none

def Steps (P : Program) (T : TT) (O : List Nat) (o : AOper) (e : List (Nat × AV)) (m : List (Nat × Option Box)) (v : AV) (up : List (Nat × Option Box)) : Prop :=
  match o.guard with
  | none => StepOK P T O o e m v up
  | some (g, want) => match guardOf (get e g) want with
    | some c => ∃ x, v = .maybe c x ∧ (c = true → StepOK P T O o e m x up) ∧ (c = true ∨ up = [])
    | none => False

/-- A state behind an operation. -/
def St.app (s : St) (d : Option Nat) (v : AV) (up : List (Nat × Option Box)) : St :=
  ⟨match d with | some d => (d, v) :: s.env | none => s.env, up ++ s.mem⟩

section
variable {P : Program} {T : TT} (hT : TOK P T) {B : Base} {w : World} {a : Act} {s : St}

theorem RelM.app {μ : Mu} {w' : World} {up : List (Nat × Option Box)} (h : RelM B w' a ⟨s.env, up ++ s.mem⟩ μ) {d : Option Nat} (hd : ∀ k, d = some k → k < B.N) {x : AV} {v : Value} (hx : Rep w' (Yof B.X μ) μ x v) :
    RelM B w' (a.put d v) (s.app d x up) μ := by
  cases d with
  | none => exact h
  | some k => exact h.set (hd k rfl) hx

/-- A call is entered with values that read as its arguments. -/
theorem call_wp {o : Oper} {μ : Mu} (h : RelM B w a s μ) {f : Operand} {args : Array Operand} {ts : Array TypeId} (ho : o.op = .call ⟨.value f, args, ts⟩) (hf : firms s.env (firm o.op)) {gid : FuncId} {as : List AV}
    (htgt : tgt (st (ev s.env f)) (nrmL T ts.toList (args.toList.map fun x => st (ev s.env x))) = some (gid, as)) (hent : Enter P gid) {next : Act → World → Prop} {Q : Exit → Act → World → Prop}
    (hcall : ∀ vs : Array Value, vs.size = as.length → (∀ i, i < as.length → Rep w (Yof B.X μ) μ (as.getD i .junk) (vs.getD i undef)) → Calls P gid vs w fun e w' => ∃ v, e = .returned v ∧ next (a.put o.dst v) w') : o.wp P a w next Q := by
  obtain ⟨fn, hfn, hname, hbody⟩ := hent
  have hfrep := rep_st (rep_ev h f) (firms_mem hf f (by simp [firm, ho, Op.operands, Call.operands]))
  unfold tgt at htgt
  split at htgt
  · rename_i f' p q hfe
    rw [hfe] at hfrep
    simp only [Option.some.injEq, Prod.mk.injEq] at htgt
    obtain ⟨rfl, rfl⟩ := htgt
    generalize hfv : a.eval f = fv at hfrep
    cases hfrep with
    | fn h0 ht hp hq =>
      rename_i fs cs
      have harg : ∀ i, i < args.toList.length → Rep w (Yof B.X μ) μ ((args.toList.map fun x => st (ev s.env x)).getD i .junk) ((args.map a.eval).toList.getD i undef) := by
        intro i hi
        have hi' : i < args.size := by simpa using hi
        have := rep_st (rep_ev h args[i]) (firms_mem hf args[i] (by simp [firm, ho, Op.operands, Call.operands]))
        simpa [List.getD_eq_getElem?_getD, hi'] using this
      have harg2 := nrmL_rep (T := T) (ts := ts.toList) (xs := args.toList.map fun x => st (ev s.env x)) (vs := (args.map a.eval).toList) (by intro i hi; exact harg i (by simpa using hi))
      have hall : ∀ i, i < (p ++ nrmL T ts.toList (args.toList.map fun x => st (ev s.env x)) ++ q).length →
          Rep w (Yof B.X μ) μ ((p ++ nrmL T ts.toList (args.toList.map fun x => st (ev s.env x)) ++ q).getD i .junk) ((fs ++ args.map a.eval ++ cs).getD i undef) := by
        intro i hi
        simp only [List.length_append, nrmL_length, List.length_map] at hi
        simp only [List.getD_eq_getElem?_getD, Array.getD_eq_getD_getElem?]
        by_cases h1 : i < p.length
        · have := hp i h1
          rw [List.append_assoc, List.getElem?_append_left h1, Array.append_assoc, Array.getElem?_append_left (by omega)]
          simpa [List.getD_eq_getElem?_getD, Array.getD_eq_getD_getElem?] using this
        · by_cases h2 : i < p.length + args.toList.length
          · have := harg2 (i - p.length) (by simp; simp at h2; omega)
            rw [List.append_assoc, List.getElem?_append_right (by omega), List.getElem?_append_left (by simp [nrmL_length]; simp at h2; omega),
              Array.append_assoc, Array.getElem?_append_right (by omega), Array.getElem?_append_left (by simp at h2 ⊢; omega), h0]
            simpa [List.getD_eq_getElem?_getD] using this
          · have := hq (i - (p.length + args.toList.length)) (by simp at h2 hi ⊢; omega)
            rw [List.getElem?_append_right (by simp [nrmL_length]; simp at h2; omega), Array.getElem?_append_right (by simp at h2 ⊢; omega)]
            simp only [List.length_append, nrmL_length, List.length_map, Array.size_append, Array.size_map, h0]
            simpa [List.getD_eq_getElem?_getD, Array.getD_eq_getD_getElem?] using this
      have hsz : (fs ++ args.map a.eval ++ cs).size = (p ++ nrmL T ts.toList (args.toList.map fun x => st (ev s.env x)) ++ q).length := by
        simp [nrmL_length, h0, ht]
      have hrun : (execOp a.eval o).run P w = .ok (.enter f' (fs ++ args.map a.eval ++ cs)) w := by
        simp [execOp, ho, resolve, hfv, Deferred.ofValue, invoke, callFunc, hfn, hname, hbody]
      unfold Oper.wp
      rw [hrun]
      refine Calls.mono (hcall _ hsz hall) ?_
      rintro e w'' ⟨v, rfl, hn⟩
      exact hn
  · cases htgt

include hT in
/-- One operation that is carried out. -/
theorem stepOK_wp {O : List Nat} {o : Oper} {g : Option (Nat × Bool)} {x : AV} {up : List (Nat × Option Box)} (hrel : Rel B w a s) (hs : StepOK P T O ⟨o.dst, o.op, o.type, g⟩ s.env s.mem x up)
    {next : Act → World → Prop} {Q : Exit → Act → World → Prop}
    (hk : ∀ w' v μ', RelM B w' a ⟨s.env, up ++ s.mem⟩ μ' → Rep w' (Yof B.X μ') μ' x v → next (a.put o.dst v) w') : o.wp P a w next Q := by
  obtain ⟨μ, h⟩ := hrel
  obtain ⟨hf, hs⟩ := hs
  have other : (opE T O s.mem (o.dst.getD 0) o.type s.env o.op).pre ∧ x = (opE T O s.mem (o.dst.getD 0) o.type s.env o.op).val ∧ up = (opE T O s.mem (o.dst.getD 0) o.type s.env o.op).up → o.wp P a w next Q := by
    rintro ⟨hp, rfl, rfl⟩
    obtain ⟨w', v, μ', hr, hrel', hrep⟩ := opE_good hT h hf hp
    unfold Oper.wp
    rcases hr with hr | ⟨hr, rfl⟩
    · rw [hr]; exact hk w' v μ' hrel' hrep
    · rw [hr]; exact hk w' undef μ' hrel' hrep
  by_cases hcall : ∃ f args ts, o.op = .call ⟨.value f, args, ts⟩
  · obtain ⟨f, args, ts, ho⟩ := hcall
    simp only [ho] at hs
    obtain ⟨hc, rfl⟩ := hs
    unfold CallOK at hc
    split at hc
    · rename_i gid as htgt
      obtain ⟨⟨hent, hcall⟩, hsn, hfl⟩ := hc
      refine call_wp h ho hf htgt hent fun vs hsz hall => ?_
      rcases hfl with hrf | hfl
      · have := hcall w (Yof B.X μ) vs (fun b hb => by
          rcases hb with hx | hb
          · exact Nat.lt_of_lt_of_le (h.base b hx).1 h.ext.size
          · exact blks.lt h.inv hb) (by rw [snapL_length]; exact hsz) (fun i hi => by
            rw [snapL_length] at hi
            rw [snapL_get hi]
            exact rep_snap_pure (hall i hi) (refsL_get hrf hi))
        refine Calls.mono this ?_
        rintro e w'' ⟨v, rfl, hg, hrep⟩
        exact ⟨v, rfl, hk w'' v μ (h.grows hg) (hrep.mono (fun b hy _ => ⟨hy, rfl⟩) (Mu.none_later μ))⟩
      · have := hcall w B.X vs (fun b hx => Nat.lt_of_lt_of_le (h.base b hx).1 h.ext.size) (by rw [snapL_length]; exact hsz) (fun i hi => by
            rw [snapL_length] at hi
            rw [snapL_get hi]
            exact rep_snap (hall i hi) (fun b hy hx => hy (.inl hx)) h.inv (snapOKL_get hsn hi))
        refine Calls.mono this ?_
        rintro e w'' ⟨v, rfl, hg, hrep⟩
        exact ⟨v, rfl, hk w'' v μ (h.grows hg) (hrep.flat μ hfl)⟩
    · exact hc.elim
  · refine other ?_
    revert hs
    generalize ho : o.op = op
    rw [ho] at hcall
    cases op with
    | call c =>
      obtain ⟨callee, args, ts⟩ := c
      cases callee with
      | value f => exact absurd ⟨f, args, ts, rfl⟩ hcall
      | _ => exact fun hs => hs
    | _ => exact fun hs => hs
end

end Go.Abs
end

section
/- The value layer, part 26 (behind 15): calls whose result is owned by the caller; calls to which a box is lent. -/
namespace Go.Abs

/-- A slice in a block of its own. -/
def Owned (w w' : World) (X : Nat → Prop) (sz : Nat) (els : List AV) (v : Value) : Prop :=
  (els = [] ∧ ∃ p, v = .slice p 0 0) ∨ ∃ g base cap c el, v = .slice (some ⟨g, base, none⟩) els.length cap ∧ sz ≠ 0 ∧ w.heap.size ≤ g ∧ w'.heap[g]? = some (.cells c el (0, 0)) ∧ els.length ≤ cap ∧ base + cap * sz = c.size ∧
    els.length ≤ big ∧ (∀ j, j < c.size → (c.getD j undef).oneCell' = true) ∧
    ∀ i, i < els.length → (els.getD i .junk).width = sz ∧ Rep w' (fun b => X b ∨ b = g) Mu.none (els.getD i .junk) (elemVal (els.getD i .junk) sz c (base + i * sz))

/-- The contract of a function whose result is a slice in a block of its own. -/
def CallO (P : Program) (f : FuncId) (args : List AV) (sz : Nat) (els : List AV) : Prop :=
  Enter P f ∧ ∀ (w : World) (X : Nat → Prop) (vs : Array Value), (∀ b, X b → b < w.heap.size) → vs.size = args.length →
    (∀ i, i < args.length → Rep w X Mu.none (args.getD i .junk) (vs.getD i undef)) →
    Calls P f vs w fun e w' => ∃ v, e = .returned v ∧ Grows w w' ∧ Owned w w' X sz els v

section
variable {P : Program} {T : TT} (hT : TOK P T) {B : Base} {w : World} {a : Act} {s : St}

/-- An owned slice becomes a box. -/
theorem own_box {μ : Mu} {w' : World} (h : RelM B w a s μ) (hg : Grows w w') {X : Nat → Prop} {sz : Nat} {els : List AV} {v : Value} (ho : Owned w w' X sz els v)
    (hel : (∀ b, Yof B.X μ b → X b) ∨ ∀ i, i < els.length → flat (els.getD i .junk) = true) (d : Nat) :
    ∃ μ', RelM B w' a ⟨s.env, (d, some ⟨sz, els, nver s.mem d, false⟩) :: s.mem⟩ μ' ∧ Rep w' (Yof B.X μ') μ' (.sl d (nver s.mem d) 0 els.length) v := by
  rcases ho with ⟨rfl, p, rfl⟩ | ⟨g, base, cap, c, el, rfl, hz, hge, hw, hcap, hfit, hbig, h1, hr⟩
  · exact ⟨_, nil_box (h.grows hg) d sz false, .slNil (loc := ⟨nver s.mem d, sz, 0, none⟩) (by simp [Mu.upd]) rfl (fun _ _ e => by cases e)⟩
  · have hrel := RelM.rebox (w' := w') h d ⟨sz, els, nver s.mem d, false⟩ ⟨nver s.mem d, sz, base, some (g, c.size)⟩ rfl rfl (later_upd h.inv d _ (Nat.le_refl _))
      (.inr (zero_upd h.inv d ⟨nver s.mem d, sz, base, some (g, c.size)⟩ (Nat.le_refl _))) ⟨hg.1, hg.2.1, hg.2.2.1⟩ hg.2.2.2.1 (fun q hq _ => hg.2.2.2.2 q hq)
      (fun g' n e => by simp only [Option.some.injEq, Prod.mk.injEq] at e; exact .inr (by omega)) ?_
    · have hsl := Rep.sl (w := w') (Y := Yof B.X (μ.upd d ⟨nver s.mem d, sz, base, some (g, c.size)⟩)) (μ := μ.upd d ⟨nver s.mem d, sz, base, some (g, c.size)⟩) (id := d) (ver := nver s.mem d) (off := 0) (len := els.length) (cap := cap)
        (loc := ⟨nver s.mem d, sz, base, some (g, c.size)⟩) (by simp [Mu.upd]) rfl rfl hcap (by simpa using hfit) hz
      exact ⟨_, hrel, by simpa using hsl⟩
    · refine ⟨hbig, fun _ => ⟨c, el, hw, rfl, Nat.le_trans (Nat.add_le_add_left (Nat.mul_le_mul_right sz hcap) base) (Nat.le_of_eq hfit), h1, fun i hi => ⟨(hr i hi).1, ?_⟩⟩, fun h0 => absurd h0 hz⟩
      have hri := (hr i hi).2
      simp only [Bool.false_eq_true, if_false]
      rcases hel with hx | hfl
      · refine hri.mono (fun b hb _ => ⟨fun hy => hb ?_, rfl⟩) (Mu.later.refl _)
        rcases hy with hy | hy
        · exact .inl (hx b (.inl hy))
        · rcases blks_upd hy with ⟨n, e⟩ | ⟨i', l', n, _, hm, hb'⟩
          · simp only [Option.some.injEq, Prod.mk.injEq] at e
            exact .inr e.1.symm
          · exact .inl (hx b (.inr ⟨i', l', n, hm, hb'⟩))
      · exact hri.flat _ (hfl i hi)

/-- A call whose result the caller owns. -/
theorem own_wp {o : Oper} (hrel : Rel B w a s) {f : Operand} {args : Array Operand} {ts : Array TypeId} (ho : o.op = .call ⟨.value f, args, ts⟩) (hf : firms s.env (firm o.op)) {g : FuncId} {as : List AV}
    (htgt : tgt (st (ev s.env f)) (nrmL T ts.toList (args.toList.map fun x => st (ev s.env x))) = some (g, as)) {sz : Nat} {els : List AV} (hc : CallO P g (snapL s.mem as) sz els) (hsn : snapOKL s.mem as)
    (hfl : AV.refsL as = [] ∨ ∀ i, i < els.length → flat (els.getD i .junk) = true) {d : Nat} (hd : d < B.N) (hdst : o.dst = some d) {next : Act → World → Prop} {Q : Exit → Act → World → Prop}
    (hk : ∀ a' w', Rel B w' a' (s.app (some d) (.sl d (nver s.mem d) 0 els.length) [(d, some ⟨sz, els, nver s.mem d, false⟩)]) → next a' w') : o.wp P a w next Q := by
  obtain ⟨μ, h⟩ := hrel
  refine call_wp h ho hf htgt hc.1 fun vs hsz hall => ?_
  rcases hfl with hrf | hfl
  · have := hc.2 w (Yof B.X μ) vs (fun b hb => by
      rcases hb with hx | hb
      · exact Nat.lt_of_lt_of_le (h.base b hx).1 h.ext.size
      · exact blks.lt h.inv hb) (by rw [snapL_length]; exact hsz) (fun i hi => by
        rw [snapL_length] at hi
        rw [snapL_get hi]
        exact rep_snap_pure (hall i hi) (refsL_get hrf hi))
    refine Calls.mono this ?_
    rintro e w'' ⟨v, rfl, hg, hown⟩
    obtain ⟨μ', hr, hx⟩ := own_box h hg hown (.inl fun b hb => hb) d
    refine ⟨v, rfl, hk _ _ ⟨μ', ?_⟩⟩
    rw [hdst]
    exact hr.set hd hx
  · have := hc.2 w B.X vs (fun b hx => Nat.lt_of_lt_of_le (h.base b hx).1 h.ext.size) (by rw [snapL_length]; exact hsz) (fun i hi => by
        rw [snapL_length] at hi
        rw [snapL_get hi]
        exact rep_snap (hall i hi) (fun b hy hx => hy (.inl hx)) h.inv (snapOKL_get hsn hi))
    refine Calls.mono this ?_
    rintro e w'' ⟨v, rfl, hg, hown⟩
    obtain ⟨μ', hr, hx⟩ := own_box h hg hown (.inr hfl) d
    refine ⟨v, rfl, hk _ _ ⟨μ', ?_⟩⟩
    rw [hdst]
    exact hr.set hd hx


/-- A call whose result the caller owns, its arguments just as they are. -/
theorem own_wp' {o : Oper} (hrel : Rel B w a s) {f : Operand} {args : Array Operand} {ts : Array TypeId} (ho : o.op = .call ⟨.value f, args, ts⟩) (hf : firms s.env (firm o.op)) {g : FuncId} {as : List AV}
    (htgt : tgt (st (ev s.env f)) (nrmL T ts.toList (args.toList.map fun x => st (ev s.env x))) = some (g, as)) {sz : Nat} {els : List AV} (hc : CallO P g as sz els) (hrf : AV.refsL as = [])
    {d : Nat} (hd : d < B.N) (hdst : o.dst = some d) {next : Act → World → Prop} {Q : Exit → Act → World → Prop}
    (hk : ∀ a' w', Rel B w' a' (s.app (some d) (.sl d (nver s.mem d) 0 els.length) [(d, some ⟨sz, els, nver s.mem d, false⟩)]) → next a' w') : o.wp P a w next Q := by
  obtain ⟨μ, h⟩ := hrel
  refine call_wp h ho hf htgt hc.1 fun vs hsz hall => ?_
  have := hc.2 w (Yof B.X μ) vs (fun b hb => by
    rcases hb with hx | hb
    · exact Nat.lt_of_lt_of_le (h.base b hx).1 h.ext.size
    · exact blks.lt h.inv hb) hsz (fun i hi => (hall i hi).pure (refsL_get hrf hi) _)
  refine Calls.mono this ?_
  rintro e w'' ⟨v, rfl, hg, hown⟩
  obtain ⟨μ', hr, hx⟩ := own_box h hg hown (.inl fun b hb => hb) d
  refine ⟨v, rfl, hk _ _ ⟨μ', ?_⟩⟩
  rw [hdst]
  exact hr.set hd hx

/-- The contract of a function of two results, the first of which the caller owns. -/
def CallT (P : Program) (f : FuncId) (args : List AV) (sz : Nat) (els : List AV) (u : Value) : Prop :=
  Enter P f ∧ u.oneCell' = true ∧ ∀ (w : World) (X : Nat → Prop) (vs : Array Value), (∀ b, X b → b < w.heap.size) → vs.size = args.length →
    (∀ i, i < args.length → Rep w X Mu.none (args.getD i .junk) (vs.getD i undef)) →
    Calls P f vs w fun e w' => ∃ v, e = .returned (.tuple #[v, u]) ∧ Grows w w' ∧ Owned w w' X sz els v
/-- A call of which the caller owns the first of two results. -/
theorem own_wpT {o : Oper} (hrel : Rel B w a s) {f : Operand} {args : Array Operand} {ts : Array TypeId} (ho : o.op = .call ⟨.value f, args, ts⟩) (hf : firms s.env (firm o.op)) {g : FuncId} {as : List AV}
    (htgt : tgt (st (ev s.env f)) (nrmL T ts.toList (args.toList.map fun x => st (ev s.env x))) = some (g, as)) {sz : Nat} {els : List AV} {u : Value} (hc : CallT P g as sz els u) (hrf : AV.refsL as = [])
    {d : Nat} (hd : d < B.N) (hdst : o.dst = some d) {next : Act → World → Prop} {Q : Exit → Act → World → Prop}
    (hk : ∀ a' w', Rel B w' a' (s.app (some d) (.tup [.sl d (nver s.mem d) 0 els.length, .raw u]) [(d, some ⟨sz, els, nver s.mem d, false⟩)]) → next a' w') : o.wp P a w next Q := by
  obtain ⟨μ, h⟩ := hrel
  obtain ⟨hc1, hu, hc2⟩ := hc
  refine call_wp h ho hf htgt hc1 fun vs hsz hall => ?_
  have := hc2 w (Yof B.X μ) vs (fun b hb => by
    rcases hb with hx | hb
    · exact Nat.lt_of_lt_of_le (h.base b hx).1 h.ext.size
    · exact blks.lt h.inv hb) hsz (fun i hi => (hall i hi).pure (refsL_get hrf hi) _)
  refine Calls.mono this ?_
  rintro e w'' ⟨v, rfl, hg, hown⟩
  obtain ⟨μ', hr, hx⟩ := own_box h hg hown (.inl fun b hb => hb) d
  refine ⟨_, rfl, hk _ _ ⟨μ', ?_⟩⟩
  rw [hdst]
  refine hr.set hd (.tup rfl fun i hi => ?_)
  match i, hi with
  | 0, _ => exact hx
  | 1, _ => exact .raw hu

/-! ### a box is lent -/
/-- The number of a lent box in the callee. -/
def lid : Nat := 1000000
def mu1 (l : Loc) : Mu := fun i => if i = lid then some l else Option.none
/-- What a call to which a box is lent returns: a value without boxes, or the first elements of the box. -/
inductive LRet where
  | val (a : AV)
  | part (len : Nat)

def LRet.rep (w : World) (Y : Nat → Prop) (l : Loc) (v : Value) : LRet → Prop
  | .val a => Rep w Y Mu.none a v
  | .part len => Rep w Y (mu1 l) (.sl lid 0 0 len) v
def LRet.av (id ver : Nat) : LRet → AV
  | .val a => a
  | .part len => .sl id ver 0 len

/-- The contract of a function to which a box is lent. -/
def CallL (P : Program) (f : FuncId) (pre : List AV) (sz : Nat) (els : List AV) (suf : List AV) (r : LRet) (els' : List AV) : Prop :=
  Enter P f ∧ ∀ (w : World) (X : Nat → Prop) (l : Loc) (vs : Array Value), l.ver = 0 → l.sz = sz → (∀ b, X b → b < w.heap.size) → (∀ g n, l.blk = some (g, n) → ¬ X g) →
    Holds w (Yof X (mu1 l)) (mu1 l) l ⟨sz, els, 0, false⟩ → vs.size = (pre ++ .sl lid 0 0 els.length :: suf).length →
    (∀ i, i < (pre ++ .sl lid 0 0 els.length :: suf).length → Rep w (Yof X (mu1 l)) (mu1 l) ((pre ++ .sl lid 0 0 els.length :: suf).getD i .junk) (vs.getD i undef)) →
    Calls P f vs w fun e w' => ∃ v, e = .returned v ∧ Ext w w' (blks (mu1 l)) ∧ Holds w' (Yof X (mu1 l)) (mu1 l) l ⟨sz, els', 0, false⟩ ∧ r.rep w' (Yof X (mu1 l)) l v

theorem blks_mu1 {l : Loc} {g : Nat} : blks (mu1 l) g ↔ ∃ n, l.blk = some (g, n) := by
  constructor
  · rintro ⟨i, l', n, hm, hb⟩
    unfold mu1 at hm
    split at hm
    · cases hm; exact ⟨n, hb⟩
    · cases hm
  · rintro ⟨n, hb⟩
    exact ⟨lid, l, n, by simp [mu1], hb⟩

theorem getD_mid {α : Type} {d : α} (p : List α) (x : α) (q : List α) (i : Nat) : (p ++ x :: q).getD i d = if i < p.length then p.getD i d else if i = p.length then x else q.getD (i - p.length - 1) d := by
  simp only [List.getD_eq_getElem?_getD]
  by_cases h : i < p.length
  · rw [if_pos h, List.getElem?_append_left h]
  · rw [if_neg h, List.getElem?_append_right (by omega)]
    by_cases e : i = p.length
    · subst e; simp
    · rw [if_neg e, show i - p.length = (i - p.length - 1) + 1 by omega]
      simp

/-- A call to which a box is lent. -/
theorem lent_wp {o : Oper} (hrel : Rel B w a s) {f : Operand} {args : Array Operand} {ts : Array TypeId} (ho : o.op = .call ⟨.value f, args, ts⟩) (hf : firms s.env (firm o.op)) {g : FuncId} {pre suf : List AV} {id ver n : Nat}
    (htgt : tgt (st (ev s.env f)) (nrmL T ts.toList (args.toList.map fun x => st (ev s.env x))) = some (g, pre ++ .sl id ver 0 n :: suf)) {b : Box} (hb : find s.mem id = some b) (hbv : b.ver = ver) (hvar : b.var = false) (hn : n = b.els.length)
    (hpre : AV.refsL pre = []) (hsuf : AV.refsL suf = []) {r : LRet} {els' : List AV} (hc : CallL P g (snapL s.mem pre) b.sz b.els (snapL s.mem suf) r els') (hd : ∀ k, o.dst = some k → k < B.N) {next : Act → World → Prop} {Q : Exit → Act → World → Prop}
    (hk : ∀ a' w', Rel B w' a' (s.app o.dst (r.av id ver) [(id, some ⟨b.sz, els', ver, false⟩)]) → next a' w') : o.wp P a w next Q := by
  obtain ⟨μ, h⟩ := hrel
  refine call_wp h ho hf htgt hc.1 fun vs hsz hall => ?_
  obtain ⟨lc, hm, hlv, hls, hh⟩ := h.inv.box id b hb
  let l : Loc := ⟨0, lc.sz, lc.base, lc.blk⟩
  let X : Nat → Prop := fun q => Yof B.X μ q ∧ ∀ n, lc.blk ≠ some (q, n)
  have hY : ∀ q, Yof X (mu1 l) q ↔ Yof B.X μ q := by
    intro q
    constructor
    · rintro (hx | hx)
      · exact hx.1
      · obtain ⟨n, hn⟩ := blks_mu1.1 hx
        exact .inr ⟨id, lc, n, hm, hn⟩
    · intro hy
      by_cases e : ∃ n, lc.blk = some (q, n)
      · exact .inr (blks_mu1.2 e)
      · exact .inl ⟨hy, fun n hn => e ⟨n, hn⟩⟩
  have hkeep : ∀ q, ¬ Yof B.X μ q → q < w.heap.size → ¬ Yof X (mu1 l) q ∧ w.heap[q]? = w.heap[q]? := fun q hq _ => ⟨fun hy => hq ((hY q).1 hy), rfl⟩
  have hpure : ∀ x v, x.refs = [] → Rep w (Yof B.X μ) μ x v → Rep w (Yof X (mu1 l)) (mu1 l) (snap s.mem x) v := fun x v hx hr => (rep_snap_pure hr hx).mono hkeep (Mu.none_later _)
  have hholds : Holds w (Yof X (mu1 l)) (mu1 l) l ⟨b.sz, b.els, 0, false⟩ := by
    unfold Holds at hh ⊢
    refine ⟨hh.1, ?_⟩
    have h2 := hh.2
    simp only [hvar, Bool.false_eq_true, if_false] at h2 ⊢
    rw [show l.blk = lc.blk from rfl]
    cases hbk : lc.blk with
    | none => rw [hbk] at h2; exact h2
    | some gn =>
      obtain ⟨g', n'⟩ := gn
      rw [hbk] at h2
      refine ⟨fun hz => ?_, fun hz => ?_⟩
      · obtain ⟨c, el, hw, hcs, hfit, h1, hr⟩ := h2.1 hz
        exact ⟨c, el, hw, hcs, hfit, h1, fun i hi => ⟨(hr i hi).1, (hr i hi).2.mono hkeep (Mu.later.refl _)⟩⟩
      · obtain ⟨hv0, es, clock, hw, hs, hr⟩ := h2.2 hz
        exact ⟨by first | rfl | trivial | exact hv0, es, clock, hw, hs, fun i hi => (hr i hi).mono hkeep (Mu.later.refl _)⟩
  have := hc.2 w X l vs rfl hls (fun q hq => by
    rcases hq.1 with hx | hx
    · exact Nat.lt_of_lt_of_le (h.base q hx).1 h.ext.size
    · exact blks.lt h.inv hx) (fun g n hg hx => hx.2 n hg) hholds (by rw [hsz]; simp [snapL_length]) (fun i hi => by
    rw [getD_mid]
    simp only [List.length_append, List.length_cons, snapL_length] at hi
    have hi2 := hall i (by simpa using hi)
    rw [getD_mid] at hi2
    rw [snapL_length]
    split at hi2
    · rename_i hlt
      rw [if_pos hlt, snapL_get hlt]
      exact hpure _ _ (refsL_get hpre hlt) hi2
    · rename_i hge
      rw [if_neg hge]
      split at hi2
      · rename_i e
        rw [if_pos e]
        rw [← hn]
        generalize vs.getD i undef = u at hi2 ⊢
        cases hi2 with
        | slNil hm' hv' hnf => rw [hm] at hm'; cases hm'; exact .slNil (loc := l) (by simp [mu1]) rfl hnf
        | sl hm' hv' hbk hcap hfit hz =>
          rw [hm] at hm'; cases hm'
          exact .sl (loc := l) (by simp [mu1]) rfl hbk hcap hfit hz
        | slOld hm' hv' =>
          rw [hm] at hm'; cases hm'
          omega
      · rename_i e
        rw [if_neg e, snapL_get (by omega)]
        exact hpure _ _ (refsL_get hsuf (by omega)) hi2)
  refine Calls.mono this ?_
  rintro e w'' ⟨v, rfl, hext, hh', hret⟩
  have hup := upd_same hm
  have hrel := RelM.rebox (w' := w'') h id ⟨b.sz, els', ver, false⟩ lc (by rw [hlv, hbv]) hls (later_same hm) (.inl hm) ⟨hext.os, hext.tape, hext.output⟩ hext.size
    (fun q hq hno => hext.old q hq fun hbl => by obtain ⟨n, hn⟩ := blks_mu1.1 hbl; exact hno lc n hm hn) (fun g n hg => .inl ⟨lc, n, hm, hg⟩) (by
      rw [upd_same hm]
      unfold Holds at hh' ⊢
      refine ⟨hh'.1, ?_⟩
      have h2 := hh'.2
      simp only [Bool.false_eq_true, if_false] at h2 ⊢
      rw [show l.blk = lc.blk from rfl] at h2
      cases hbk : lc.blk with
      | none => rw [hbk] at h2; exact h2
      | some gn =>
        obtain ⟨g', n'⟩ := gn
        rw [hbk] at h2
        refine ⟨fun hz => ?_, fun hz => ?_⟩
        · obtain ⟨c, el, hw, hcs, hfit, h1, hr⟩ := h2.1 hz
          exact ⟨c, el, hw, hcs, hfit, h1, fun i hi => ⟨(hr i hi).1, (hr i hi).2.mono (fun q hq _ => ⟨fun hy => hq ((hY q).2 hy), rfl⟩) (Mu.later.refl _)⟩⟩
        · obtain ⟨hv0, es, clock, hw, hs, hr⟩ := h2.2 hz
          exact ⟨by first | rfl | trivial | exact hv0, es, clock, hw, hs, fun i hi => (hr i hi).mono (fun q hq _ => ⟨fun hy => hq ((hY q).2 hy), rfl⟩) (Mu.later.refl _)⟩)
  rw [upd_same hm] at hrel
  refine ⟨v, rfl, hk _ _ ⟨μ, hrel.app hd ?_⟩⟩
  cases r with
  | val x => exact Rep.mono (fun q hq _ => ⟨fun hy => hq ((hY q).2 hy), rfl⟩) hret (Mu.none_later μ)
  | part len =>
    simp only [LRet.rep] at hret
    simp only [LRet.av]
    cases hret with
    | slNil hm' hv' hnf =>
      simp only [mu1, if_true, Option.some.injEq] at hm'
      subst hm'
      exact .slNil (loc := lc) hm (by rw [hlv, hbv]) hnf
    | sl hm' hv' hbk hcap hfit hz =>
      simp only [mu1, if_true, Option.some.injEq] at hm'
      subst hm'
      exact .sl (loc := lc) hm (by rw [hlv, hbv]) hbk hcap hfit hz
    | slOld hm' hv' =>
      simp only [mu1, if_true, Option.some.injEq] at hm'
      subst hm'
      exact absurd hv' (by simp [l])

end
end Go.Abs
end

section
/- The value layer, part 32 (between 26 and 16): boxes that are lent under other names. -/
namespace Go.Abs

mutual
/-- Other names for boxes. -/
def renA (f : Nat → Nat → Option (Nat × Nat)) : AV → AV
  | .sl i ver off len => match f i ver with | some (j, u) => .sl j u off len | none => .junk
  | .pt i ver idx o => match f i ver with | some (j, u) => .pt j u idx o | none => .junk
  | .mp i ver => match f i ver with | some (j, u) => .mp j u | none => .junk
  | .agg l => .agg (renL f l)
  | .tup l => .tup (renL f l)
  | .fn g p q => .fn g (renL f p) (renL f q)
  | .maybe g a => .maybe g (renA f a)
  | .raw v => .raw v
  | .seq sz l full => .seq sz l full
  | .ipt e o => .ipt e o
  | .map l => .map l
  | .junk => .junk
def renL (f : Nat → Nat → Option (Nat × Nat)) : List AV → List AV
  | [] => []
  | a :: l => renA f a :: renL f l
end

theorem renL_length {f : Nat → Nat → Option (Nat × Nat)} : ∀ {l : List AV}, (renL f l).length = l.length
  | [] => rfl
  | a :: l => by simp [renL, renL_length]
theorem renL_get {f : Nat → Nat → Option (Nat × Nat)} : ∀ {l : List AV} {i : Nat}, i < l.length → (renL f l).getD i .junk = renA f (l.getD i .junk)
  | a :: l, 0, _ => by simp [renL]
  | a :: l, i + 1, h => by simpa [renL] using renL_get (l := l) (i := i) (by simpa using h)
theorem renA_width {f : Nat → Nat → Option (Nat × Nat)} (a : AV) : (renA f a).width = a.width := by
  cases a with
  | agg l => simp only [renA, AV.width, renL_length]
  | sl i ver off len => simp only [renA]; split <;> rfl
  | pt i ver idx o => simp only [renA]; split <;> rfl
  | mp i ver => simp only [renA]; split <;> rfl
  | _ => simp only [renA, AV.width]
theorem renA_elemVal {f : Nat → Nat → Option (Nat × Nat)} (a : AV) (sz : Nat) (c : Array Value) (o : Nat) : elemVal (renA f a) sz c o = elemVal a sz c o := by
  cases a with
  | agg l => simp only [renA, elemVal]
  | sl i ver off len => simp only [renA]; split <;> rfl
  | pt i ver idx o => simp only [renA]; split <;> rfl
  | mp i ver => simp only [renA]; split <;> rfl
  | _ => simp only [renA, elemVal]

/-- The names lead to the same places. -/
def Leads (f : Nat → Nat → Option (Nat × Nat)) (μ μ' : Mu) : Prop :=
  ∀ i ver j u, f i ver = some (j, u) → ∃ l l', μ i = some l ∧ l.ver = ver ∧ μ' j = some l' ∧ l'.ver = u ∧ l'.sz = l.sz ∧ l'.base = l.base ∧ l'.blk = l.blk

theorem ren_rep {w : World} {Y : Nat → Prop} {f : Nat → Nat → Option (Nat × Nat)} {μ0 μ' : Mu} (hf : Leads f μ0 μ') {μ : Mu} {a : AV} {v : Value} (h : Rep w Y μ a v) : μ = μ0 → Rep w Y μ' (renA f a) v := by
  induction h with
  | raw h => intro _; simp only [renA]; exact .raw h
  | agg h0 h1 h ih =>
    intro e
    simp only [renA]
    refine .agg (by rw [renL_length]; exact h0) (fun i hi' => h1 i (by rwa [renL_length] at hi')) (fun i hi' => ?_)
    rw [renL_length] at hi'
    rw [renL_get hi']
    exact ih i hi' e
  | tup h0 h ih =>
    intro e
    simp only [renA]
    refine .tup (by rw [renL_length]; exact h0) (fun i hi' => ?_)
    rw [renL_length] at hi'
    rw [renL_get hi']
    exact ih i hi' e
  | nil => intro _; simp only [renA]; exact .nil
  | seq hY hb hc hf hbig hfit hw h1 h ih => intro _; simp only [renA]; exact .seq hY hb hc hf hbig hfit hw h1 h
  | ipt hY hb hfit h1 h ih => intro _; simp only [renA]; exact .ipt hY hb hfit h1 h
  | pt hm hv hb hz =>
    rename_i μ i ver idx sub loc g n
    intro e; subst e
    simp only [renA]
    split
    · rename_i j u hj
      obtain ⟨l, l', h1, h2, h3, h4, h5, h6, h7⟩ := hf _ _ _ _ hj
      rw [hm] at h1; cases h1
      rw [← h5, ← h6]
      exact .pt h3 h4 (h7.trans hb) (by rw [h5]; exact hz)
    · exact .junk
  | ptOld hm hv =>
    rename_i μ i ver idx sub loc v
    intro e; subst e
    simp only [renA]
    split
    · rename_i j u hj
      obtain ⟨l, l', h1, h2, h3, h4, h5, h6, h7⟩ := hf _ _ _ _ hj
      rw [hm] at h1; cases h1
      omega
    · exact .junk
  | slNil hm hv hnf =>
    rename_i μ i ver off loc p
    intro e; subst e
    simp only [renA]
    split
    · rename_i j u hj
      obtain ⟨l, l', h1, h2, h3, h4, h5, h6, h7⟩ := hf _ _ _ _ hj
      rw [hm] at h1; cases h1
      exact .slNil h3 h4 (by rw [h5, h6, h7]; exact hnf)
    · exact .junk
  | sl hm hv hb hc hfit hz =>
    rename_i μ i ver off len cap loc g n
    intro e; subst e
    simp only [renA]
    split
    · rename_i j u hj
      obtain ⟨l, l', h1, h2, h3, h4, h5, h6, h7⟩ := hf _ _ _ _ hj
      rw [hm] at h1; cases h1
      rw [← h5, ← h6]
      exact .sl h3 h4 (h7.trans hb) hc (by rw [h5, h6]; exact hfit) (by rw [h5]; exact hz)
    · exact .junk
  | slOld hm hv =>
    rename_i μ i ver off len loc v
    intro e; subst e
    simp only [renA]
    split
    · rename_i j u hj
      obtain ⟨l, l', h1, h2, h3, h4, h5, h6, h7⟩ := hf _ _ _ _ hj
      rw [hm] at h1; cases h1
      omega
    · exact .junk
  | mp hm hv hb hz =>
    rename_i μ i ver loc g n
    intro e; subst e
    simp only [renA]
    split
    · rename_i j u hj
      obtain ⟨l, l', h1, h2, h3, h4, h5, h6, h7⟩ := hf _ _ _ _ hj
      rw [hm] at h1; cases h1
      exact .mp h3 h4 (h7.trans hb) (by rw [h5]; exact hz)
    · exact .junk
  | mpOld hm hv =>
    rename_i μ i ver loc v
    intro e; subst e
    simp only [renA]
    split
    · rename_i j u hj
      obtain ⟨l, l', h1, h2, h3, h4, h5, h6, h7⟩ := hf _ _ _ _ hj
      rw [hm] at h1; cases h1
      omega
    · exact .junk
  | map hY hb hs hbig h ih => intro _; simp only [renA]; exact .map hY hb hs hbig h
  | fn h0 ht h k ih ik =>
    intro e
    simp only [renA]
    refine .fn (by rw [renL_length]; exact h0) (by rw [renL_length]; exact ht) (fun i hi' => ?_) (fun i hi' => ?_)
    · rw [renL_length] at hi'; rw [renL_get hi']; exact ih i hi' e
    · rw [renL_length] at hi'; rw [renL_get hi']; exact ik i hi' e
  | maybe h0 h ih => intro e; simp only [renA]; exact .maybe h0 fun g => ih g e
  | junk => intro _; simp only [renA]; exact .junk

/-- A box and its name in the callee: its number and version here, its number there (where its version is 0). -/
abbrev Names := List (Nat × Nat × Nat)
def upN : Names → Nat → Nat → Option (Nat × Nat)
  | [], _, _ => none
  | (a, b, c) :: l, i, v => if a = i ∧ b = v then some (c, 0) else upN l i v
def dnO : Names → Nat → Option (Nat × Nat)
  | [], _ => none
  | (a, b, c) :: l, j => if c = j then some (a, b) else dnO l j
def dnN (σ : Names) (j u : Nat) : Option (Nat × Nat) := if u = 0 then dnO σ j else none
def namesOK (m : List (Nat × Option Box)) : Names → Prop
  | [] => True
  | (a, b, c) :: l => (match find m a with | some x => x.ver = b | none => False) ∧ (l.all fun p => decide (p.1 ≠ a) && decide (p.2.2 ≠ c)) = true ∧ namesOK m l
def lendM (σ : Names) (m : List (Nat × Option Box)) : Names → List (Nat × Option Box)
  | [] => []
  | (a, _, c) :: l => (c, (find m a).map fun x => ⟨x.sz, if x.var then renL (upN σ) x.els else x.els, 0, x.var⟩) :: lendM σ m l
def backM (σ : Names) (m' : List (Nat × Option Box)) : Names → List (Nat × Option Box)
  | [] => []
  | (a, b, c) :: l => (a, (find m' c).map fun x => ⟨x.sz, if x.var then renL (dnN σ) x.els else x.els, b, x.var⟩) :: backM σ m' l

theorem upN_mem : ∀ {σ : Names} {i v : Nat} {x : Nat × Nat}, upN σ i v = some x → ∃ c, (i, v, c) ∈ σ ∧ x = (c, 0)
  | (a, b, c) :: l, i, v, x, h => by
    simp only [upN] at h
    split at h
    · rename_i e
      obtain ⟨rfl, rfl⟩ := e
      cases h
      exact ⟨c, by simp, rfl⟩
    · obtain ⟨c', h1, h2⟩ := upN_mem h
      exact ⟨c', by simp [h1], h2⟩
theorem dnO_mem : ∀ {σ : Names} {j : Nat} {x : Nat × Nat}, dnO σ j = some x → (x.1, x.2, j) ∈ σ
  | (a, b, c) :: l, j, x, h => by
    simp only [dnO] at h
    split at h
    · rename_i e
      subst e
      cases h
      simp
    · have := dnO_mem h
      simp [this]
theorem mem_dnO {m : List (Nat × Option Box)} : ∀ {σ : Names}, namesOK m σ → ∀ {a b c : Nat}, (a, b, c) ∈ σ → dnO σ c = some (a, b)
  | (a0, b0, c0) :: l, h, a, b, c, hm => by
    obtain ⟨_, h2, h3⟩ := h
    simp only [dnO]
    rcases List.mem_cons.1 hm with e | hm
    · cases e
      rw [if_pos rfl]
    · have := List.all_eq_true.1 h2 _ hm
      simp only [Bool.and_eq_true, decide_eq_true_eq] at this
      rw [if_neg (fun e => this.2 e.symm)]
      exact mem_dnO h3 hm
theorem names_mem {m : List (Nat × Option Box)} : ∀ {σ : Names}, namesOK m σ → ∀ {a b c : Nat}, (a, b, c) ∈ σ → ∃ x, find m a = some x ∧ x.ver = b
  | (a0, b0, c0) :: l, h, a, b, c, hm => by
    obtain ⟨h1, _, h3⟩ := h
    rcases List.mem_cons.1 hm with e | hm
    · cases e
      split at h1
      · rename_i x hx; exact ⟨x, hx, h1⟩
      · exact h1.elim
    · exact names_mem h3 hm
theorem names_one {m : List (Nat × Option Box)} : ∀ {σ : Names}, namesOK m σ → ∀ {a b c b' c' : Nat}, (a, b, c) ∈ σ → (a, b', c') ∈ σ → b = b' ∧ c = c'
  | (a0, b0, c0) :: l, h, a, b, c, b', c', hm, hm' => by
    obtain ⟨_, h2, h3⟩ := h
    rcases List.mem_cons.1 hm with e | hm
    · cases e
      rcases List.mem_cons.1 hm' with e | hm'
      · cases e; exact ⟨rfl, rfl⟩
      · have := List.all_eq_true.1 h2 _ hm'
        simp at this
    · rcases List.mem_cons.1 hm' with e | hm'
      · cases e
        have := List.all_eq_true.1 h2 _ hm
        simp at this
      · exact names_one h3 hm hm'
theorem find_lendM {σ0 : Names} {m : List (Nat × Option Box)} : ∀ (σ : Names) (j : Nat), find (lendM σ0 m σ) j = (dnO σ j).bind fun p => (find m p.1).map fun x => ⟨x.sz, if x.var then renL (upN σ0) x.els else x.els, 0, x.var⟩
  | [], j => rfl
  | (a, b, c) :: l, j => by
    simp only [lendM, find, dnO]
    by_cases e : j = c
    · rw [if_pos e, if_pos e.symm]; rfl
    · rw [if_neg e, if_neg (fun h => e h.symm)]
      exact find_lendM l j
/-- The name in the callee. -/
def upI : Names → Nat → Option (Nat × Nat)
  | [], _ => none
  | (a, b, c) :: l, i => if a = i then some (b, c) else upI l i
theorem upI_mem : ∀ {σ : Names} {i : Nat} {x : Nat × Nat}, upI σ i = some x → (i, x.1, x.2) ∈ σ
  | (a, b, c) :: l, i, x, h => by
    simp only [upI] at h
    split at h
    · rename_i e
      subst e
      cases h
      simp
    · have := upI_mem h
      simp [this]
theorem upI_none : ∀ {σ : Names} {i b c : Nat}, upI σ i = none → (i, b, c) ∉ σ
  | [], _, _, _, _ => by simp
  | (a0, b0, c0) :: l, i, b, c, h => by
    simp only [upI] at h
    split at h
    · cases h
    · rename_i e
      intro hm
      rcases List.mem_cons.1 hm with e2 | hm
      · cases e2; exact e rfl
      · exact upI_none h hm
theorem find_backM {σ0 : Names} {m' m : List (Nat × Option Box)} : ∀ (σ : Names) (i : Nat), find (backM σ0 m' σ ++ m) i = match upI σ i with
    | some p => (find m' p.2).map fun x => ⟨x.sz, if x.var then renL (dnN σ0) x.els else x.els, p.1, x.var⟩
    | none => find m i
  | [], i => rfl
  | (a, b, c) :: l, i => by
    simp only [backM, List.cons_append, find, upI]
    by_cases e : i = a
    · rw [if_pos e, if_pos e.symm]
    · rw [if_neg e, if_neg (fun h => e h.symm)]
      exact find_backM l i

/-- The contract of a function to which boxes are lent. -/
def CallB (P : Program) (f : FuncId) (as : List AV) (m : List (Nat × Option Box)) (r : AV) (m' : List (Nat × Option Box)) : Prop :=
  Enter P f ∧ ∀ (w : World) (X : Nat → Prop) (μ : Mu) (vs : Array Value), (∀ b, X b → b < w.heap.size) → Inv w X μ m → (∀ id l, μ id = some l → l.ver = 0) → vs.size = as.length →
    (∀ i, i < as.length → Rep w (Yof X μ) μ (as.getD i .junk) (vs.getD i undef)) →
    Calls P f vs w fun e w' => ∃ v, e = .returned v ∧ Ext w w' (blks μ) ∧ Inv w' X μ m' ∧ Rep w' (Yof X μ) μ r v

section
variable {P : Program} {T : TT} {B : Base} {w : World} {a : Act} {s : St}

def muN (σ : Names) (μ : Mu) : Mu := fun j => (dnO σ j).bind fun p => (μ p.1).map fun l => ⟨0, l.sz, l.base, l.blk⟩
theorem muN_some {σ : Names} {μ : Mu} {j : Nat} {l' : Loc} (h : muN σ μ j = some l') : ∃ i v l, (i, v, j) ∈ σ ∧ μ i = some l ∧ l' = ⟨0, l.sz, l.base, l.blk⟩ := by
  unfold muN at h
  cases hd : dnO σ j with
  | none => rw [hd] at h; cases h
  | some p =>
    rw [hd] at h
    simp only [Option.bind_some, Option.map_eq_some_iff] at h
    obtain ⟨l, hl, rfl⟩ := h
    exact ⟨p.1, p.2, l, dnO_mem hd, hl, rfl⟩
theorem muN_of {σ : Names} {m : List (Nat × Option Box)} (hσ : namesOK m σ) {μ : Mu} {i v j : Nat} {l : Loc} (h : (i, v, j) ∈ σ) (hl : μ i = some l) : muN σ μ j = some ⟨0, l.sz, l.base, l.blk⟩ := by
  unfold muN
  rw [mem_dnO hσ h]
  simp [hl]
theorem blks_muN {σ : Names} {μ : Mu} {g : Nat} (h : blks (muN σ μ) g) : ∃ i v j l n, (i, v, j) ∈ σ ∧ μ i = some l ∧ l.blk = some (g, n) := by
  obtain ⟨j, l', n, hm, hb⟩ := h
  obtain ⟨i, v, l, h1, h2, rfl⟩ := muN_some hm
  exact ⟨i, v, j, l, n, h1, h2, hb⟩

/-- A call to which boxes are lent. -/
theorem boxes_wp {o : Oper} (hrel : Rel B w a s) {f : Operand} {args : Array Operand} {ts : Array TypeId} (ho : o.op = .call ⟨.value f, args, ts⟩) (hf : firms s.env (firm o.op)) {g : FuncId} {as : List AV}
    (htgt : tgt (st (ev s.env f)) (nrmL T ts.toList (args.toList.map fun x => st (ev s.env x))) = some (g, as)) (σ : Names) (hσ : namesOK s.mem σ) {r : AV} {m' : List (Nat × Option Box)}
    (hc : CallB P g (renL (upN σ) as) (lendM σ s.mem σ) r m') (hd : ∀ k, o.dst = some k → k < B.N) {next : Act → World → Prop} {Q : Exit → Act → World → Prop}
    (hk : ∀ a' w', Rel B w' a' (s.app o.dst (renA (dnN σ) r) (backM σ m' σ)) → next a' w') : o.wp P a w next Q := by
  obtain ⟨μ, h⟩ := hrel
  refine call_wp h ho hf htgt hc.1 fun vs hsz hall => ?_
  have hμ : ∀ {i v j : Nat}, (i, v, j) ∈ σ → ∃ b l, find s.mem i = some b ∧ b.ver = v ∧ μ i = some l ∧ l.ver = v ∧ l.sz = b.sz ∧ Holds w (Yof B.X μ) μ l b := by
    intro i v j hm
    obtain ⟨b, hb, hv⟩ := names_mem hσ hm
    obtain ⟨l, h1, h2, h3, h4⟩ := h.inv.box i b hb
    exact ⟨b, l, hb, hv, h1, by rw [h2, hv], h3, h4⟩
  let X : Nat → Prop := fun q => Yof B.X μ q ∧ ¬ blks (muN σ μ) q
  have hsub : ∀ q, blks (muN σ μ) q → blks μ q := by
    intro q hq
    obtain ⟨i, v, j, l, n, _, h2, h3⟩ := blks_muN hq
    exact ⟨i, l, n, h2, h3⟩
  have hY : ∀ q, Yof X (muN σ μ) q ↔ Yof B.X μ q := by
    intro q
    constructor
    · rintro (hx | hx)
      · exact hx.1
      · exact .inr (hsub q hx)
    · intro hy
      by_cases e : blks (muN σ μ) q
      · exact .inr e
      · exact .inl ⟨hy, e⟩
  have hup : Leads (upN σ) μ (muN σ μ) := by
    intro i ver j u hj
    obtain ⟨c, hm, e⟩ := upN_mem hj
    cases e
    obtain ⟨b, l, _, _, h3, h4, _, _⟩ := hμ hm
    exact ⟨l, _, h3, h4, muN_of hσ hm h3, rfl, rfl, rfl, rfl⟩
  have hdn : Leads (dnN σ) (muN σ μ) μ := by
    intro j u i ver hj
    unfold dnN at hj
    split at hj
    · rename_i e
      subst e
      have hm := dnO_mem hj
      obtain ⟨b, l, _, _, h3, h4, _, _⟩ := hμ hm
      exact ⟨_, l, muN_of hσ hm h3, rfl, h3, h4, rfl, rfl, rfl⟩
    · cases hj
  have hkeep : ∀ q, ¬ Yof B.X μ q → q < w.heap.size → ¬ Yof X (muN σ μ) q ∧ w.heap[q]? = w.heap[q]? := fun q hq _ => ⟨fun hy => hq ((hY q).1 hy), rfl⟩
  have hinv : Inv w X (muN σ μ) (lendM σ s.mem σ) := by
    refine ⟨fun j hj => ?_, fun j b' hj => ?_, fun j j' l l' g n n' h1 h2 h3 h4 => ?_, fun g hg hx => hx.2 hg⟩
    · rw [find_lendM] at hj
      unfold muN
      cases hd : dnO σ j with
      | none => rfl
      | some p =>
        rw [hd] at hj
        obtain ⟨b, l, hb, _⟩ := hμ (dnO_mem hd)
        simp [hb] at hj
    · rw [find_lendM] at hj
      cases hd : dnO σ j with
      | none => rw [hd] at hj; cases hj
      | some p =>
        rw [hd] at hj
        have hm := dnO_mem hd
        obtain ⟨b, l, hb, hv, hml, hlv, hls, hh⟩ := hμ hm
        simp only [Option.bind_some, hb, Option.map_some, Option.some.injEq] at hj
        subst hj
        refine ⟨_, muN_of hσ hm hml, rfl, hls, ?_⟩
        unfold Holds at hh ⊢
        have hlen : (if b.var = true then renL (upN σ) b.els else b.els).length = b.els.length := by split <;> simp [renL_length]
        refine ⟨by dsimp only; rw [hlen]; exact hh.1, ?_⟩
        have h2 := hh.2
        dsimp only
        cases hbk : l.blk with
        | none =>
          rw [hbk] at h2
          exact List.eq_nil_of_length_eq_zero (by rw [hlen, h2]; rfl)
        | some gn =>
          obtain ⟨g', n'⟩ := gn
          rw [hbk] at h2
          refine ⟨fun hz => ?_, fun hz => ?_⟩
          · obtain ⟨c, el, hw, hcs, hfit, h1, hr⟩ := h2.1 hz
            refine ⟨c, el, hw, hcs, by rw [hlen]; exact hfit, h1, fun k hk => ?_⟩
            rw [hlen] at hk
            obtain ⟨r1, r2⟩ := hr k hk
            cases hvr : b.var with
            | true =>
              rw [hvr] at r2
              simp only [if_true] at r2 ⊢
              rw [renL_get hk, renA_width, renA_elemVal]
              exact ⟨r1, (ren_rep hup r2 rfl).mono hkeep (Mu.later.refl _)⟩
            | false =>
              rw [hvr] at r2
              simp only [Bool.false_eq_true, if_false] at r2 ⊢
              exact ⟨r1, r2.mono hkeep (Mu.later.refl _)⟩
          · obtain ⟨hv0, es, clock, hw, hs, hr⟩ := h2.2 hz
            simp only [hv0, Bool.false_eq_true, if_false]
            exact ⟨trivial, es, clock, hw, hs, fun i hi => (hr i hi).mono hkeep (Mu.later.refl _)⟩
    · obtain ⟨i, v, l1, m1, e1, rfl⟩ := muN_some h1
      obtain ⟨i', v', l2, m2, e2, rfl⟩ := muN_some h2
      have := h.inv.apart i i' l1 l2 g n n' e1 e2 h3 h4
      subst this
      exact (names_one hσ m1 m2).2
  have := hc.2 w X (muN σ μ) vs (fun q hq => by
    rcases hq.1 with hx | hx
    · exact Nat.lt_of_lt_of_le (h.base q hx).1 h.ext.size
    · exact blks.lt h.inv hx) hinv (fun id l hl => by
    obtain ⟨_, _, _, _, _, rfl⟩ := muN_some hl
    rfl) (by rw [renL_length]; exact hsz) (fun i hi => by
    rw [renL_length] at hi
    rw [renL_get hi]
    exact (ren_rep hup (hall i hi) rfl).mono hkeep (Mu.later.refl _))
  refine Calls.mono this ?_
  rintro e w'' ⟨v, rfl, hext, hinv', hret⟩
  have hback : ∀ q, ¬ Yof X (muN σ μ) q → q < w''.heap.size → ¬ Yof B.X μ q ∧ w''.heap[q]? = w''.heap[q]? := fun q hq _ => ⟨fun hy => hq ((hY q).2 hy), rfl⟩
  have hold : ∀ q, ¬ Yof B.X μ q → q < w.heap.size → ¬ Yof B.X μ q ∧ w''.heap[q]? = w.heap[q]? := fun q hq hlt => ⟨hq, hext.old q hlt fun hb => hq (.inr (hsub q hb))⟩
  have hrel : RelM B w'' a ⟨s.env, backM σ m' σ ++ s.mem⟩ μ := by
    refine ⟨h.defers, h.size, ⟨fun i hi => ?_, fun i b' hi => ?_, h.inv.apart, h.inv.out⟩, fun t => (h.env t).mono hold (Mu.later.refl _), h.ext.trans hext fun g hg hbl => ?_, h.mine, h.base, h.kept⟩
    · dsimp only at hi
      rw [find_backM] at hi
      cases hu : upI σ i with
      | none => rw [hu] at hi; exact h.inv.no i hi
      | some p =>
        rw [hu] at hi
        simp only [Option.map_eq_none_iff] at hi
        have hm := upI_mem hu
        obtain ⟨b, l, _, _, h3, _⟩ := hμ hm
        have h4 := hinv'.no _ hi
        rw [muN_of hσ hm h3] at h4
        cases h4
    · dsimp only at hi
      rw [find_backM] at hi
      cases hu : upI σ i with
      | none =>
        rw [hu] at hi
        obtain ⟨l, h1, h2, h3, h4⟩ := h.inv.box i b' hi
        refine ⟨l, h1, h2, h3, h4.mono hold (Mu.later.refl _) fun g n hg => hext.old g (blks.lt h.inv ⟨i, l, n, h1, hg⟩) fun hbl => ?_⟩
        obtain ⟨i', v, j, l', n', hm, e1, e2⟩ := blks_muN hbl
        have := h.inv.apart i i' l l' g n n' h1 e1 hg e2
        subst this
        exact upI_none hu hm
      | some p =>
        rw [hu] at hi
        simp only [Option.map_eq_some_iff] at hi
        obtain ⟨x, hx, rfl⟩ := hi
        have hm := upI_mem hu
        obtain ⟨b, l, hb, hv, hml, hlv, hls, _⟩ := hμ hm
        obtain ⟨l', e1, e2, e3, hh⟩ := hinv'.box _ x hx
        rw [muN_of hσ hm hml] at e1
        cases e1
        dsimp only at e2 e3
        refine ⟨l, hml, hlv, e3, ?_⟩
        unfold Holds at hh ⊢
        have hlen : (if x.var = true then renL (dnN σ) x.els else x.els).length = x.els.length := by split <;> simp [renL_length]
        refine ⟨by dsimp only; rw [hlen]; exact hh.1, ?_⟩
        have h2 := hh.2
        dsimp only at h2 ⊢
        cases hbk : l.blk with
        | none =>
          rw [hbk] at h2
          exact List.eq_nil_of_length_eq_zero (by rw [hlen, h2]; rfl)
        | some gn =>
          obtain ⟨g', n'⟩ := gn
          rw [hbk] at h2
          refine ⟨fun hz => ?_, fun hz => ?_⟩
          · obtain ⟨c, el, hw, hcs, hfit, h1, hr⟩ := h2.1 hz
            refine ⟨c, el, hw, hcs, by rw [hlen]; exact hfit, h1, fun k hk => ?_⟩
            rw [hlen] at hk
            obtain ⟨r1, r2⟩ := hr k hk
            cases hvr : x.var with
            | true =>
              rw [hvr] at r2
              simp only [if_true] at r2 ⊢
              rw [renL_get hk, renA_width, renA_elemVal]
              exact ⟨r1, (ren_rep hdn r2 rfl).mono hback (Mu.later.refl _)⟩
            | false =>
              rw [hvr] at r2
              simp only [Bool.false_eq_true, if_false] at r2 ⊢
              exact ⟨r1, r2.mono hback (Mu.later.refl _)⟩
          · obtain ⟨hv0, es, clock, hw, hs, hr⟩ := h2.2 hz
            simp only [hv0, Bool.false_eq_true, if_false]
            exact ⟨trivial, es, clock, hw, hs, fun i hi => (hr i hi).mono hback (Mu.later.refl _)⟩
    · rcases h.mine g (hsub g hbl) with ho | hge
      · exact ho
      · omega
  exact ⟨v, rfl, hk _ _ ⟨μ, hrel.app hd ((ren_rep hdn hret rfl).mono hback (Mu.later.refl _))⟩⟩
end
end Go.Abs
end

section
/- The value layer, part 16: guards; on what a step hangs. -/
namespace Go.Abs

/-- An operation of a region, its guard by the slot. -/
def aoper (ops : Array Oper) (o : Oper) : Option AOper :=
  match o.guard with
  | none => some ⟨o.dst, o.op, o.type, none⟩
  | some (j, want) => match (ops[j]?).bind (·.dst) with
    | some t => some ⟨o.dst, o.op, o.type, some (t, want)⟩
    | none => none

section
variable {P : Program} {T : TT} (hT : TOK P T) {B : Base} {w : World} {a : Act} {s : St}

theorem yielded_guard {ops : Array Oper} {j t : Nat} {want c : Bool} (ht : (ops[j]?).bind (·.dst) = some t) {μ : Mu} (h : RelM B w a s μ) (hg : guardOf (get s.env t) want = some c) :
    (yielded ops a.tmps j == some want) = c := by
  have hr := h.env t
  have key : ∀ b, a.tmps.getD t undef = .bool b → a.tmps[t]? = some (.bool b) := by
    intro b hb
    rw [Array.getD_eq_getD_getElem?] at hb
    cases hq : a.tmps[t]? with
    | none => rw [hq] at hb; simp [undef] at hb
    | some v => rw [hq] at hb; simp at hb; rw [hb]
  unfold guardOf at hg
  unfold yielded
  rw [ht]
  simp only [Option.bind_some]
  split at hg
  · rename_i b hget
    rw [hget] at hr
    have := key b hr.one.1
    rw [this]
    simpa using hg
  · rename_i p b hget
    rw [hget] at hr
    cases hr with
    | maybe h0 h1 =>
      cases p with
      | true =>
        have := key b (h1 rfl).one.1
        rw [this]
        simpa using hg
      | false =>
        have h2 := h0 rfl
        have hnb : ∀ b, a.tmps[t]? ≠ some (.bool b) := by
          intro b hb
          rw [Array.getD_eq_getD_getElem?, hb] at h2
          simp [undef] at h2
        simp at hg
        subst hg
        cases hq : a.tmps[t]? with
        | none => rfl
        | some v =>
          cases v with
          | bool b => exact absurd hq (hnb b)
          | _ => rfl
  · cases hg

include hT in
/-- An operation of a region, guarded or not. -/
theorem steps_wpOp {O : List Nat} {ops : Array Oper} {i : Nat} {o : Oper} {ao : AOper} (hi : ops[i]? = some o) (hao : aoper ops o = some ao) (hd : ∀ k, o.dst = some k → k < B.N) {v : AV} {up : List (Nat × Option Box)}
    (hrel : Rel B w a s) (hs : Steps P T O ao s.env s.mem v up) {K : Act → World → Prop} {Q : Exit → Act → World → Prop}
    (hk : ∀ w' a', Rel B w' a' (s.app o.dst v up) → K a' w') : wpOp P ops Q i K a w := by
  unfold wpOp
  rw [hi]
  simp only
  unfold aoper at hao
  unfold Region.wanted
  cases hg : o.guard with
  | none =>
    rw [hg] at hao
    simp only [Option.some.injEq] at hao
    subst hao
    simp only [if_true]
    exact .inl (stepOK_wp hT hrel hs fun w' v' μ' hrel' hrep => hk _ _ ⟨μ', hrel'.app hd hrep⟩)
  | some gw =>
    obtain ⟨j, want⟩ := gw
    rw [hg] at hao
    simp only at hao
    cases ht : (ops[j]?).bind (·.dst) with
    | none => rw [ht] at hao; cases hao
    | some t =>
      rw [ht] at hao
      simp only [Option.some.injEq] at hao
      subst hao
      simp only [Steps] at hs
      cases hc : guardOf (get s.env t) want with
      | none => rw [hc] at hs; exact hs.elim
      | some c =>
        rw [hc] at hs
        obtain ⟨x, rfl, hstep, hup⟩ := hs
        obtain ⟨μ, h⟩ := hrel
        change (if (yielded ops a.tmps j == some want) = true then _ else _)
        rw [yielded_guard ht h hc]
        cases c with
        | true =>
          simp only [if_true]
          exact .inl (stepOK_wp hT ⟨μ, h⟩ (hstep rfl) fun w' v' μ' hrel' hrep => hk _ _ ⟨μ', hrel'.app hd (.maybe (fun h => by cases h) fun _ => hrep)⟩)
        | false =>
          simp only [Bool.false_eq_true, if_false]
          have hup' : up = [] := by
            rcases hup with h | h
            · cases h
            · exact h
          subst hup'
          exact hk _ _ ⟨μ, RelM.app (up := []) h hd (.maybe (fun _ => rfl) fun h => by cases h)⟩
end

/-! ### on what a step hangs -/
def eqOn (ids : List Nat) (m m' : List (Nat × Option Box)) : Prop := ∀ id ∈ ids, find m id = find m' id

theorem nver_local {m m' : List (Nat × Option Box)} {d : Nat} (h : find m d = find m' d) : nver m d = nver m' d := by simp [nver, h]

theorem solid_local {m m' : List (Nat × Option Box)} {x : AV} (h : eqOn x.refs m m') : AV.solid m x = AV.solid m' x := by
  cases x with
  | pt id ver idx o => simp only [AV.solid]; rw [h id (by simp [AV.refs])]
  | sl id ver off len => simp only [AV.solid]; rw [h id (by simp [AV.refs])]
  | mp id ver => simp only [AV.solid]; rw [h id (by simp [AV.refs])]
  | _ => rfl

theorem nrm_refs {T : TT} {t : Nat} {x : AV} : (nrm T t x).refs = x.refs := by
  unfold nrm
  split
  · simp [AV.refs]
  · rfl

theorem elems_local {m m' : List (Nat × Option Box)} {x : AV} (h : eqOn x.refs m m') : elems m x = elems m' x := by
  cases x <;> simp only [elems]
  rw [h _ (by simp [AV.refs])]

theorem elemsV_local {m m' : List (Nat × Option Box)} {x : AV} (h : eqOn x.refs m m') : elemsV m x = elemsV m' x := by
  cases x <;> simp only [elemsV]
  rw [h _ (by simp [AV.refs])]

theorem ments_local {m m' : List (Nat × Option Box)} {x : AV} (h : eqOn x.refs m m') : ments m x = ments m' x := by
  cases x <;> simp only [ments]
  rw [h _ (by simp [AV.refs])]

theorem partsOK_local {m m' : List (Nat × Option Box)} : ∀ {l : List (Nat × AV)}, (∀ p ∈ l, eqOn p.2.refs m m') → partsOK m l = partsOK m' l
  | [], _ => rfl
  | p :: l, h => by
    simp only [partsOK]
    rw [solid_local (h p (by simp)), partsOK_local (fun q hq => h q (by simp [hq]))]

theorem nrms_mem {T : TT} {k : TK} : ∀ {l : List (Nat × AV)} {p : Nat × AV}, p ∈ nrms T k l → ∃ q ∈ l, p.2.refs = q.2.refs
  | q :: l, p, h => by
    simp only [nrms, List.mem_cons] at h
    rcases h with rfl | h
    · exact ⟨q, by simp, nrm_refs⟩
    · obtain ⟨q', hq, e⟩ := nrms_mem h
      exact ⟨q', by simp [hq], e⟩

/-- The boxes that an operation can look into. -/
def isMv : Op → Bool
  | .move _ => true
  | .assign _ => true
  | _ => false
def opRefs (e : List (Nat × AV)) (op : Op) (d : Nat) : List Nat := d :: (if isMv op = true then [] else op.operands.toList.flatMap fun x => (ev e x).refs)

theorem opE_local {T : TT} {O : List Nat} {m m' : List (Nat × Option Box)} {d ty : Nat} {e e' : List (Nat × AV)} {op : Op} (he : ∀ x ∈ op.operands.toList, ev e x = ev e' x) (hm : eqOn (opRefs e op d) m m') :
    opE T O m d ty e op = opE T O m' d ty e' op := by
  have hd : find m d = find m' d := hm d (by simp [opRefs])
  by_cases hmv : isMv op = true
  · cases op with
    | move x =>
      rw [opE, opE, ← he x (by simp [Op.operands])]
      unfold moveE
      split <;> simp [nver_local hd]
    | assign x =>
      rw [opE, opE, ← he x (by simp [Op.operands])]
      unfold moveE
      split <;> simp [nver_local hd]
    | _ => cases hmv
  have hx : ∀ x ∈ op.operands.toList, eqOn (ev e x).refs m m' := fun x hx id hid => hm id (by simp only [opRefs, if_neg hmv, List.mem_cons, List.mem_flatMap]; exact .inr ⟨x, hx, hid⟩)
  have hs : ∀ x ∈ op.operands.toList, eqOn (st (ev e x)).refs m m' := fun x h => by rw [st_refs]; exact hx x h
  cases op with
  | move x =>
    rw [opE, opE, ← he x (by simp [Op.operands])]
    unfold moveE
    split <;> simp [nver_local hd]
  | assign x =>
    rw [opE, opE, ← he x (by simp [Op.operands])]
    unfold moveE
    split <;> simp [nver_local hd]
  | pick c x y => rw [opE, opE, ← he c (by simp [Op.operands]), ← he x (by simp [Op.operands]), ← he y (by simp [Op.operands])]
  | box t x =>
    rw [opE, opE, ← he x (by simp [Op.operands])]
    unfold boxE
    rw [nver_local hd, solid_local (by rw [nrm_refs]; exact hs x (by simp [Op.operands]))]
  | alloc t =>
    rw [opE, opE]
    unfold allocE
    rw [nver_local hd]
  | build t parts =>
    have hp : (parts.toList.map fun p => (p.1, st (ev e p.2))) = parts.toList.map fun p => (p.1, st (ev e' p.2)) :=
      List.map_congr_left fun p hp => by rw [he p.2 (by simp [Op.operands]; exact ⟨p.1, by simpa using hp⟩)]
    rw [opE, opE, ← hp]
    unfold buildE
    rw [partsOK_local (m := m) (m' := m') fun p hp' => by
      obtain ⟨q, hq, e1⟩ := nrms_mem hp'
      rw [e1]
      obtain ⟨q', hq', rfl⟩ := List.mem_map.1 hq
      exact hs q'.2 (by simp [Op.operands]; exact ⟨q'.1, by simpa using hq'⟩)]
  | buildSlice t len parts =>
    have hp : (parts.toList.map fun p => (p.1, st (ev e p.2))) = parts.toList.map fun p => (p.1, st (ev e' p.2)) :=
      List.map_congr_left fun p hp => by rw [he p.2 (by simp [Op.operands]; exact ⟨p.1, by simpa using hp⟩)]
    rw [opE, opE, ← hp]
    unfold sliceLitE
    split
    · rw [partsOK_local (m := m) (m' := m') fun p hp' => by
        obtain ⟨q, hq, e1⟩ := nrms_mem hp'
        rw [e1]
        obtain ⟨q', hq', rfl⟩ := List.mem_map.1 hq
        exact hs q'.2 (by simp [Op.operands]; exact ⟨q'.1, by simpa using hq'⟩), nver_local hd]
    · rfl
  | load t x =>
    rw [opE, opE, ← he x (by simp [Op.operands])]
    have h1 := hs x (by simp [Op.operands])
    cases hq : st (ev e x) <;> simp only [loadE]
    rw [hq] at h1
    rw [h1 _ (by simp [AV.refs])]
  | store t x y =>
    rw [opE, opE, ← he x (by simp [Op.operands]), ← he y (by simp [Op.operands])]
    have h1 := hs x (by simp [Op.operands])
    cases hq : st (ev e x) <;> simp only [storeE]
    rw [hq] at h1
    rw [h1 _ (by simp [AV.refs])]
    rw [solid_local (m := m) (m' := m') (by rw [nrm_refs]; exact hs y (by simp [Op.operands]))]
  | nilCheck x =>
    rw [opE, opE, ← he x (by simp [Op.operands])]
    have h1 := hs x (by simp [Op.operands])
    cases hq : st (ev e x) <;> simp only [nilE]
    rw [hq] at h1
    rw [h1 _ (by simp [AV.refs])]
  | binOp op t x y yt => rw [opE, opE, ← he x (by simp [Op.operands]), ← he y (by simp [Op.operands])]
  | unOp op t x => rw [opE, opE, ← he x (by simp [Op.operands])]
  | convert t t' x =>
    rw [opE, opE, ← he x (by simp [Op.operands])]
    unfold convX convB
    rw [elems_local (hs x (by simp [Op.operands]))]
  | makeMap t r =>
    have e1 : (r.map fun x => st (ev e x)) = r.map fun x => st (ev e' x) := by cases r with | none => rfl | some l => simp [he l (by simp [Op.operands])]
    rw [opE, opE, e1]
    unfold makeMapE
    rw [nver_local hd]
  | mapUpdate t x k v =>
    rw [opE, opE, ← he x (by simp [Op.operands]), ← he k (by simp [Op.operands]), ← he v (by simp [Op.operands])]
    have h1 := hs x (by simp [Op.operands])
    unfold mupdE
    cases tkind T t with
    | map kt et kk =>
      cases hq : st (ev e x) with
      | mp id ver =>
        rw [hq] at h1
        cases akey (st (ev e k)) with
        | none => rfl
        | some q => dsimp only; rw [h1 id (by simp [AV.refs])]
      | _ => rfl
    | _ => rfl
  | insert t x k v =>
    rw [opE, opE, ← he x (by simp [Op.operands]), ← he k (by simp [Op.operands]), ← he v (by simp [Op.operands])]
    have h1 := hs x (by simp [Op.operands])
    unfold mupdE
    cases tkind T t with
    | map kt et kk =>
      cases hq : st (ev e x) with
      | mp id ver =>
        rw [hq] at h1
        cases akey (st (ev e k)) with
        | none => rfl
        | some q => dsimp only; rw [h1 id (by simp [AV.refs])]
      | _ => rfl
    | _ => rfl
  | lookup t x k ok =>
    rw [opE, opE, ← he x (by simp [Op.operands]), ← he k (by simp [Op.operands])]
    unfold lookE
    rw [ments_local (hs x (by simp [Op.operands]))]
  | makeFunc fn f c =>
    rw [opE, opE]
    rw [List.map_congr_left (l := f.toList) (g := fun x => st (ev e' x)) fun x hx => by rw [he x (by simp [Op.operands]; exact .inl (by simpa using hx))],
      List.map_congr_left (l := c.toList) (g := fun x => st (ev e' x)) fun x hx => by rw [he x (by simp [Op.operands]; exact .inr (by simpa using hx))]]
  | makeSlice t x y =>
    rw [opE, opE, ← he x (by simp [Op.operands]), ← he y (by simp [Op.operands])]
    unfold makeE
    rw [nver_local hd]
  | slice t x lo hi mx =>
    rw [opE, opE, ← he x (by simp [Op.operands])]
    have e1 : (lo.map fun x => st (ev e x)) = lo.map fun x => st (ev e' x) := by cases lo with | none => rfl | some l => simp [he l (by simp [Op.operands])]
    have e2 : (hi.map fun x => st (ev e x)) = hi.map fun x => st (ev e' x) := by cases hi with | none => rfl | some l => simp [he l (by simp [Op.operands])]
    have e3 : (mx.map fun x => st (ev e x)) = mx.map fun x => st (ev e' x) := by cases mx with | none => rfl | some l => simp [he l (by simp [Op.operands])]
    rw [e1, e2, e3]
    have h1 := hs x (by simp [Op.operands])
    cases hq : st (ev e x) <;> simp only [sliceE]
    rw [hq] at h1
    rw [h1 _ (by simp [AV.refs])]
  | fieldAddr t x k =>
    rw [opE, opE, ← he x (by simp [Op.operands])]
    have h1 := hs x (by simp [Op.operands])
    cases hq : st (ev e x) <;> simp only [fieldE]
    rw [hq] at h1
    rw [h1 _ (by simp [AV.refs])]
  | field t x k => rw [opE, opE, ← he x (by simp [Op.operands])]
  | indexAddr t x i =>
    rw [opE, opE, ← he x (by simp [Op.operands]), ← he i (by simp [Op.operands])]
    have h1 := hs x (by simp [Op.operands])
    cases hq : st (ev e x) <;> simp only [indexE] <;> (rw [hq] at h1; rw [h1 _ (by simp [AV.refs])])
  | index t x i => rw [opE, opE, ← he x (by simp [Op.operands]), ← he i (by simp [Op.operands])]
  | extract x k => rw [opE, opE, ← he x (by simp [Op.operands])]
  | call c =>
    obtain ⟨callee, args, ts⟩ := c
    cases callee with
    | value f => rfl
    | invoke r n => rfl
    | builtin b =>
      have hl : (args.toList.map fun x => st (ev e x)) = args.toList.map fun x => st (ev e' x) :=
        List.map_congr_left fun x hx => by rw [he x (by simp [Op.operands, Call.operands]; simpa using hx)]
      have hr : ∀ y ∈ args.toList.map (fun x => st (ev e x)), eqOn y.refs m m' := by
        intro y hy
        obtain ⟨x, hx', rfl⟩ := List.mem_map.1 hy
        exact hs x (by simp [Op.operands, Call.operands]; simpa using hx')
      simp only [opE]
      rw [← hl]
      generalize args.toList.map (fun x => st (ev e x)) = xs at hr
      unfold builtinE
      split
      · rename_i t x he1
        have h1 := hr x (by simp)
        unfold lenB mlenE
        have : lenOK m x = lenOK m' x := by
          cases x <;> simp only [lenOK]
          rw [h1 _ (by simp [AV.refs])]
        rw [this, ments_local h1]
      · rename_i t t' x y he1
        have h1 := hr x (by simp)
        have h2 := hr y (by simp)
        unfold appE
        rw [elemsV_local h2, nver_local hd]
        cases x <;> simp only
        rw [h1 _ (by simp [AV.refs])]
      · rfl
      · rfl
      · rfl
      · rename_i t x he1
        have h1 := hr x (by simp)
        unfold clearE
        cases x <;> simp only
        rw [h1 _ (by simp [AV.refs])]
      · rename_i t t' x y he1
        have h1 := hr x (by simp)
        have h2 := hr y (by simp)
        unfold copyE
        rw [elems_local h2]
        cases x <;> simp only
        rw [h1 _ (by simp [AV.refs])]
      · rfl
  | _ => rfl

end Go.Abs
end

section
/- The value layer, part 17: a region whose order is drawn. -/
namespace Go.Abs

/-! ### a step hangs on what it looks at alone -/
def tmpsOf (op : Op) : List Nat := op.operands.toList.filterMap fun | .tmp t => some t | _ => none
def slotsOf (o : AOper) : List Nat := tmpsOf o.op ++ (match o.guard with | some (g, _) => [g] | none => [])

theorem ev_local {e e' : List (Nat × AV)} {op : Op} (h : ∀ t ∈ tmpsOf op, get e t = get e' t) : ∀ x ∈ op.operands.toList, ev e x = ev e' x := by
  intro x hx
  cases x with
  | tmp t => exact h t (List.mem_filterMap.2 ⟨.tmp t, hx, rfl⟩)
  | _ => rfl

theorem firms_local {e e' : List (Nat × AV)} : ∀ {l : List Operand}, (∀ x ∈ l, ev e x = ev e' x) → firms e l = firms e' l
  | [], _ => rfl
  | x :: l, h => by simp only [firms]; rw [h x (by simp), firms_local fun y hy => h y (by simp [hy])]

theorem firm_sub (op : Op) : ∀ x ∈ firm op, x ∈ op.operands.toList := by
  intro x hx
  unfold firm at hx
  split at hx
  · simp [Op.operands] at hx ⊢; exact .inl hx
  · simpa [Op.operands] using hx
  · simpa [Op.operands] using hx
  · exact hx

mutual
theorem snap_local {m m' : List (Nat × Option Box)} : ∀ (a : AV), eqOn a.refs m m' → snap m a = snap m' a
  | .seq _ _ _, _ => by simp [snap]
  | .sl id _ _ _, h => by simp only [snap]; rw [h id (by simp [AV.refs])]
  | .pt id _ _ _, h => by simp only [snap]; rw [h id (by simp [AV.refs])]
  | .agg l, h => by simp only [snap]; rw [snapL_local l (by simpa [AV.refs] using h)]
  | .tup l, h => by simp only [snap]; rw [snapL_local l (by simpa [AV.refs] using h)]
  | .fn f a b, h => by
    simp only [snap]
    rw [snapL_local a (fun id hid => h id (by simp [AV.refs, hid])), snapL_local b (fun id hid => h id (by simp [AV.refs, hid]))]
  | .maybe g a, h => by simp only [snap]; rw [snap_local a (by simpa [AV.refs] using h)]
  | .raw _, _ => by simp [snap]
  | .ipt _ _, _ => by simp [snap]
  | .mp id _, h => by simp only [snap]; rw [h id (by simp [AV.refs])]
  | .map _, _ => by simp [snap]
  | .junk, _ => by simp [snap]
theorem snapL_local {m m' : List (Nat × Option Box)} : ∀ (l : List AV), eqOn (AV.refsL l) m m' → snapL m l = snapL m' l
  | [], _ => by simp [snapL]
  | a :: l, h => by
    simp only [snapL]
    rw [snap_local a (fun id hid => h id (by simp [AV.refsL, hid])), snapL_local l (fun id hid => h id (by simp [AV.refsL, hid]))]
end

mutual
theorem snapOK_local {m m' : List (Nat × Option Box)} : ∀ (a : AV), eqOn a.refs m m' → snapOK m a = snapOK m' a
  | .seq _ _ _, _ => by simp [snapOK]
  | .sl id _ _ _, h => by simp only [snapOK]; rw [h id (by simp [AV.refs])]
  | .pt id _ _ _, h => by simp only [snapOK]; rw [h id (by simp [AV.refs])]
  | .agg l, h => by simp only [snapOK]; rw [snapOKL_local l (by simpa [AV.refs] using h)]
  | .tup l, h => by simp only [snapOK]; rw [snapOKL_local l (by simpa [AV.refs] using h)]
  | .fn f a b, h => by
    simp only [snapOK]
    rw [snapOKL_local a (fun id hid => h id (by simp [AV.refs, hid])), snapOKL_local b (fun id hid => h id (by simp [AV.refs, hid]))]
  | .maybe g a, h => by simp only [snapOK]; rw [snapOK_local a (by simpa [AV.refs] using h)]
  | .raw _, _ => by simp [snapOK]
  | .ipt _ _, _ => by simp [snapOK]
  | .mp id _, h => by simp only [snapOK]; rw [h id (by simp [AV.refs])]
  | .map _, _ => by simp [snapOK]
  | .junk, _ => by simp [snapOK]
theorem snapOKL_local {m m' : List (Nat × Option Box)} : ∀ (l : List AV), eqOn (AV.refsL l) m m' → snapOKL m l = snapOKL m' l
  | [], _ => by simp [snapOKL]
  | a :: l, h => by
    simp only [snapOKL]
    rw [snapOK_local a (fun id hid => h id (by simp [AV.refsL, hid])), snapOKL_local l (fun id hid => h id (by simp [AV.refsL, hid]))]
end

theorem refsL_append : ∀ (a b : List AV), AV.refsL (a ++ b) = AV.refsL a ++ AV.refsL b
  | [], b => by simp [AV.refsL]
  | x :: a, b => by simp [AV.refsL, refsL_append a b]

theorem nrmL_refs {T : TT} : ∀ {ts : List Nat} {xs : List AV}, AV.refsL (nrmL T ts xs) = AV.refsL xs
  | [], xs => by simp [nrmL]
  | t :: ts, [] => by simp [nrmL]
  | t :: ts, x :: xs => by simp [nrmL, AV.refsL, nrm_refs, nrmL_refs]

theorem mem_refsL_iff {id : Nat} : ∀ {l : List AV}, id ∈ AV.refsL l ↔ ∃ a ∈ l, id ∈ a.refs
  | [] => by simp [AV.refsL]
  | a :: l => by simp [AV.refsL, mem_refsL_iff]

/-- The boxes that an operation can look into. -/
def idsOf (o : AOper) (e : List (Nat × AV)) : List Nat := opRefs e o.op (o.dst.getD 0)

theorem callOK_local {P : Program} {T : TT} {e e' : List (Nat × AV)} {m m' : List (Nat × Option Box)} {f : Operand} {args : Array Operand} {ts : Array TypeId} {d : Nat} {r : AV}
    (he : ∀ x ∈ (Op.call ⟨.value f, args, ts⟩).operands.toList, ev e x = ev e' x) (hm : eqOn (opRefs e (.call ⟨.value f, args, ts⟩) d) m m') (h : CallOK P T e m f ts.toList args.toList r) :
    CallOK P T e' m' f ts.toList args.toList r := by
  have hf : ev e f = ev e' f := he f (by simp [Op.operands, Call.operands])
  have ha : (args.toList.map fun x => st (ev e x)) = args.toList.map fun x => st (ev e' x) := List.map_congr_left fun x hx => by rw [he x (by simp [Op.operands, Call.operands]; exact .inr (by simpa using hx))]
  unfold CallOK at *
  rw [← hf, ← ha]
  split at h
  · rename_i g as htgt
    have hrefs : eqOn (AV.refsL as) m m' := by
      intro id hid
      refine hm id ?_
      unfold tgt at htgt
      split at htgt
      · rename_i f' p q hfe
        simp only [Option.some.injEq, Prod.mk.injEq] at htgt
        obtain ⟨rfl, rfl⟩ := htgt
        simp only [refsL_append, nrmL_refs, List.mem_append] at hid
        simp only [opRefs, isMv, Bool.false_eq_true, if_false, List.mem_cons, List.mem_flatMap]
        right
        rcases hid with (hid | hid) | hid
        · refine ⟨f, by simp [Op.operands, Call.operands], ?_⟩
          rw [← st_refs, hfe]
          simp [AV.refs, hid]
        · obtain ⟨a, ha', hid'⟩ := mem_refsL_iff.1 hid
          obtain ⟨x, hx, rfl⟩ := List.mem_map.1 ha'
          refine ⟨x, by simp [Op.operands, Call.operands]; exact .inr (by simpa using hx), ?_⟩
          rw [st_refs] at hid'
          exact hid'
        · refine ⟨f, by simp [Op.operands, Call.operands], ?_⟩
          rw [← st_refs, hfe]
          simp [AV.refs, hid]
      · cases htgt
    rw [← snapL_local as hrefs, ← snapOKL_local as hrefs]
    exact h
  · exact h.elim

theorem stepOK_local {P : Program} {T : TT} {O : List Nat} {o : AOper} {e e' : List (Nat × AV)} {m m' : List (Nat × Option Box)} {v : AV} {up : List (Nat × Option Box)}
    (he : ∀ t ∈ tmpsOf o.op, get e t = get e' t) (hm : eqOn (idsOf o e) m m') (h : StepOK P T O o e m v up) : StepOK P T O o e' m' v up := by
  obtain ⟨hf, h⟩ := h
  have hev := ev_local he
  have hl := opE_local (T := T) (O := O) (d := o.dst.getD 0) (ty := o.ty) hev hm
  refine ⟨by rw [← firms_local fun x hx => hev x (firm_sub _ x hx)]; exact hf, ?_⟩
  obtain ⟨dst, op, ty, guard⟩ := o
  simp only at hl h hev ⊢
  cases op with
  | call c =>
    obtain ⟨callee, args, ts⟩ := c
    cases callee with
    | value f => exact ⟨callOK_local hev hm h.1, h.2⟩
    | _ => simp only at h ⊢; rw [← hl]; exact h
  | _ => simp only at h ⊢; rw [← hl]; exact h

theorem steps_local {P : Program} {T : TT} {O : List Nat} {o : AOper} {e e' : List (Nat × AV)} {m m' : List (Nat × Option Box)} {v : AV} {up : List (Nat × Option Box)}
    (he : ∀ t ∈ slotsOf o, get e t = get e' t) (hm : eqOn (idsOf o e) m m') (h : Steps P T O o e m v up) : Steps P T O o e' m' v up := by
  have he' : ∀ t ∈ tmpsOf o.op, get e t = get e' t := fun t ht => he t (by simp [slotsOf, ht])
  unfold Steps at *
  cases hg : o.guard with
  | none =>
    rw [hg] at h
    exact stepOK_local he' hm h
  | some gw =>
    obtain ⟨g, want⟩ := gw
    rw [hg] at h
    simp only at h ⊢
    rw [← he g (by simp [slotsOf, hg])]
    cases hc : guardOf (get e g) want with
    | none => rw [hc] at h; exact h.elim
    | some c =>
      rw [hc] at h
      obtain ⟨x, hv, hs, hu⟩ := h
      exact ⟨x, hv, fun hc => stepOK_local he' hm (hs hc), hu⟩

/-! ### states out of steps -/
section
variable (dst : Nat → Option Nat) (V : Nat → AV) (U : Nat → List (Nat × Option Box)) (s : St) (n : Nat)

/-- The state behind the steps with these numbers. -/
def stOf (D : Nat → Bool) : St := ((List.range n).filter D).foldl (fun s i => s.app (dst i) (V i) (U i)) s

theorem get_foldl (t : Nat) : ∀ (l : List Nat) (s : St), get (l.foldl (fun s i => s.app (dst i) (V i) (U i)) s).env t =
    match (l.filter fun i => decide (dst i = some t)).getLast? with | some i => V i | none => get s.env t
  | [], s => rfl
  | i :: l, s => by
    simp only [List.foldl_cons]
    rw [get_foldl t l]
    by_cases h : dst i = some t
    · rw [List.filter_cons_of_pos (by simp [h])]
      cases hl : (l.filter fun i => decide (dst i = some t)) with
      | nil => simp [St.app, h, get]
      | cons x xs =>
        cases hq : (x :: xs).getLast? with
        | none => simp at hq
        | some y => simp [hq]
    · rw [List.filter_cons_of_neg (by simp [h])]
      cases hl : (l.filter fun i => decide (dst i = some t)) with
      | nil =>
        simp only [List.getLast?_nil, St.app]
        cases hd : dst i with
        | none => rfl
        | some d =>
          have : t ≠ d := fun e => h (by rw [hd, e])
          simp [get, this]
      | cons x xs =>
        cases hq : (x :: xs).getLast? with
        | none => simp at hq
        | some y => rfl

theorem find_append : ∀ (u m : List (Nat × Option Box)) (id : Nat), find (u ++ m) id = if id ∈ u.map (·.1) then find u id else find m id
  | [], m, id => by simp
  | (k, b) :: u, m, id => by
    simp only [List.cons_append, find, List.map_cons, List.mem_cons]
    by_cases h : id = k
    · simp [h]
    · simp only [h, if_false, false_or]
      exact find_append u m id

theorem find_foldl (id : Nat) : ∀ (l : List Nat) (s : St), find (l.foldl (fun s i => s.app (dst i) (V i) (U i)) s).mem id =
    match (l.filter fun i => decide (id ∈ (U i).map (·.1))).getLast? with | some i => find (U i) id | none => find s.mem id
  | [], s => rfl
  | i :: l, s => by
    simp only [List.foldl_cons]
    rw [find_foldl id l]
    by_cases h : id ∈ (U i).map (·.1)
    · rw [List.filter_cons_of_pos (by simpa using h)]
      cases hl : (l.filter fun i => decide (id ∈ (U i).map (·.1))) with
      | nil =>
        simp only [List.getLast?_nil, List.getLast?_singleton, St.app]
        rw [find_append, if_pos h]
      | cons x xs =>
        cases hq : (x :: xs).getLast? with
        | none => simp at hq
        | some y => simp [hq]
    · rw [List.filter_cons_of_neg (by simpa using h)]
      cases hl : (l.filter fun i => decide (id ∈ (U i).map (·.1))) with
      | nil =>
        simp only [List.getLast?_nil, St.app]
        rw [find_append, if_neg h]
      | cons x xs =>
        cases hq : (x :: xs).getLast? with
        | none => simp at hq
        | some y => rfl

theorem get_stOf {D D' : Nat → Bool} (t : Nat) (h : ∀ i, i < n → dst i = some t → D i = D' i) : get (stOf dst V U s n D).env t = get (stOf dst V U s n D').env t := by
  unfold stOf
  rw [get_foldl, get_foldl, List.filter_filter, List.filter_filter]
  have : (List.range n).filter (fun i => decide (dst i = some t) && D i) = (List.range n).filter fun i => decide (dst i = some t) && D' i := by
    apply List.filter_congr
    intro i hi
    by_cases hd : dst i = some t
    · simp [hd, h i (by simpa using hi) hd]
    · simp [hd]
  rw [this]

theorem find_stOf {D D' : Nat → Bool} (id : Nat) (h : ∀ i, i < n → id ∈ (U i).map (·.1) → D i = D' i) : find (stOf dst V U s n D).mem id = find (stOf dst V U s n D').mem id := by
  unfold stOf
  rw [find_foldl, find_foldl, List.filter_filter, List.filter_filter]
  have : (List.range n).filter (fun i => decide (id ∈ (U i).map (·.1)) && D i) = (List.range n).filter fun i => decide (id ∈ (U i).map (·.1)) && D' i := by
    apply List.filter_congr
    intro i hi
    by_cases hd : id ∈ (U i).map (·.1)
    · simp only [hd, decide_true, Bool.true_and]; exact h i (by simpa using hi) hd
    · simp only [hd, decide_false, Bool.false_and]
  rw [this]

/-- The last of a list that is filtered, if it is the greatest. -/
theorem getLast_filter_range {p : Nat → Bool} {i : Nat} (hi : i < n) (hp : p i = true) (hl : ∀ j, j < n → i < j → p j = false) : ((List.range n).filter p).getLast? = some i := by
  have e : List.range n = List.range (i + 1) ++ (List.range (n - (i + 1))).map (i + 1 + ·) := by
    rw [← List.range_add]
    congr 1
    omega
  rw [e, List.filter_append]
  have e2 : ((List.range (n - (i + 1))).map (i + 1 + ·)).filter p = [] := by
    rw [List.filter_eq_nil_iff]
    intro j hj
    obtain ⟨k, hk, rfl⟩ := List.mem_map.1 hj
    simp only [List.mem_range] at hk
    rw [hl _ (by omega) (by omega)]
    simp
  rw [e2, List.append_nil, List.range_succ, List.filter_append]
  simp [hp]

theorem get_stOf_last {D : Nat → Bool} {i t : Nat} (hi : i < n) (hD : D i = true) (hd : dst i = some t) (hl : ∀ j, j < n → i < j → dst j = some t → D j = false) : get (stOf dst V U s n D).env t = V i := by
  unfold stOf
  rw [get_foldl, List.filter_filter, getLast_filter_range n hi (by simp [hd, hD]) (fun j hj hij => by
    by_cases hdj : dst j = some t
    · simp [hl j hj hij hdj]
    · simp [hdj])]

theorem find_stOf_last {D : Nat → Bool} {i id : Nat} (hi : i < n) (hD : D i = true) (hd : id ∈ (U i).map (·.1)) (hl : ∀ j, j < n → i < j → id ∈ (U j).map (·.1) → D j = false) :
    find (stOf dst V U s n D).mem id = find (U i) id := by
  unfold stOf
  rw [find_foldl, List.filter_filter, getLast_filter_range n hi (by simp only [hd, decide_true, hD, Bool.and_self]) (fun j hj hij => by
    by_cases hdj : id ∈ (U j).map (·.1)
    · simp only [hdj, decide_true, Bool.true_and]; exact hl j hj hij hdj
    · simp only [hdj, decide_false, Bool.false_and])]
end

theorem Rel.same {B : Base} {w : World} {a : Act} {s s' : St} (h : Rel B w a s) (he : ∀ t, get s.env t = get s'.env t) (hm : ∀ id, find s.mem id = find s'.mem id) : Rel B w a s' := by
  obtain ⟨μ, h⟩ := h
  refine ⟨μ, h.defers, h.size, ⟨fun id hid => h.inv.no id (by rw [hm]; exact hid), fun id b hb => h.inv.box id b (by rw [hm]; exact hb), h.inv.apart, h.inv.out⟩, fun t => ?_, h.ext, h.mine, h.base, h.kept⟩
  rw [← he]
  exact h.env t

/-! ### calls to which boxes are lent, in whatever order -/
/-- A call to which boxes are lent: which of them it looks at and changes. -/
def LentStep (P : Program) (T : TT) (o : AOper) (e : List (Nat × AV)) (m : List (Nat × Option Box)) (ex : List Nat) (v : AV) (up : List (Nat × Option Box)) : Prop :=
  o.guard = none ∧ firms e (firm o.op) ∧ ∃ f args ts, o.op = .call ⟨.value f, args, ts⟩ ∧ ∃ g as, tgt (st (ev e f)) (nrmL T ts.toList (args.toList.map fun x => st (ev e x))) = some (g, as) ∧
    ∃ (σ : Names) (r : AV) (m' : List (Nat × Option Box)), namesOK m σ ∧ σ.map (·.1) = ex ∧ CallB P g (renL (upN σ) as) (lendM σ m σ) r m' ∧ v = renA (dnN σ) r ∧ up = backM σ m' σ
theorem namesOK_local {m m' : List (Nat × Option Box)} : ∀ {σ : Names}, eqOn (σ.map (·.1)) m m' → namesOK m σ → namesOK m' σ
  | [], _, _ => trivial
  | (a, b, c) :: l, h, hn => by
    obtain ⟨h1, h2, h3⟩ := hn
    refine ⟨?_, h2, namesOK_local (fun id hid => h id (by simp only [List.map_cons, List.mem_cons]; exact .inr hid)) h3⟩
    rw [← h a (by simp)]
    exact h1
theorem lendM_local {σ0 : Names} {m m' : List (Nat × Option Box)} : ∀ {σ : Names}, eqOn (σ.map (·.1)) m m' → lendM σ0 m σ = lendM σ0 m' σ
  | [], _ => rfl
  | (a, b, c) :: l, h => by
    simp only [lendM]
    rw [h a (by simp), lendM_local (σ := l) fun id hid => h id (by simp only [List.map_cons, List.mem_cons]; exact .inr hid)]
theorem lentStep_local {P : Program} {T : TT} {o : AOper} {e e' : List (Nat × AV)} {m m' : List (Nat × Option Box)} {ex : List Nat} {v : AV} {up : List (Nat × Option Box)}
    (he : ∀ t ∈ slotsOf o, get e t = get e' t) (hm : eqOn ex m m') (h : LentStep P T o e m ex v up) : LentStep P T o e' m' ex v up := by
  obtain ⟨hg, hf, f, args, ts, ho, g, as, ht, σ, r, m1, h1, h2, h3, h4, h5⟩ := h
  have hev := ev_local (op := o.op) (e := e) (e' := e') fun t ht => he t (by simp [slotsOf, ht])
  have hff : ev e f = ev e' f := hev f (by rw [ho]; simp [Op.operands, Call.operands])
  have ha : (args.toList.map fun x => st (ev e x)) = args.toList.map fun x => st (ev e' x) := List.map_congr_left fun x hx => by rw [hev x (by rw [ho]; simp [Op.operands, Call.operands]; exact .inr (by simpa using hx))]
  subst h2
  refine ⟨hg, by rw [← firms_local fun x hx => hev x (firm_sub _ x hx)]; exact hf, f, args, ts, ho, g, as, by rw [← hff, ← ha]; exact ht, σ, r, m1, namesOK_local hm h1, rfl, by rw [← lendM_local hm]; exact h3, h4, h5⟩
/-- One operation, with what it looks at. -/
def Go1 (P : Program) (T : TT) (O : List Nat) (o : AOper) (s : St) (F : List Nat) (v : AV) (up : List (Nat × Option Box)) : Prop :=
  (Steps P T O o s.env s.mem v up ∧ F = idsOf o s.env) ∨ LentStep P T o s.env s.mem F v up
theorem go1_local {P : Program} {T : TT} {O : List Nat} {o : AOper} {s : St} {F : List Nat} {v : AV} {up : List (Nat × Option Box)} (h : Go1 P T O o s F v up) {e' : List (Nat × AV)} {m' : List (Nat × Option Box)}
    (he : ∀ t ∈ slotsOf o, get s.env t = get e' t) (hm : eqOn F s.mem m') : Steps P T O o e' m' v up ∨ LentStep P T o e' m' F v up := by
  rcases h with ⟨h, rfl⟩ | h
  · exact .inl (steps_local he hm h)
  · exact .inr (lentStep_local he hm h)
end Go.Abs
end

section
/- The value layer, part 18: one run in the text's order serves every order. -/
namespace Go.Abs

section
variable {P : Program} {T : TT} (hT : TOK P T) {B : Base} {O : List Nat}

structure Plan (P : Program) (T : TT) (O : List Nat) (ops : Array Oper) (n : Nat) where
  ao : Nat → AOper
  V : Nat → AV
  U : Nat → List (Nat × Option Box)
  F : Nat → List Nat
  s : St
  anc : Nat → List Nat
  size : ops.size = n
  oper : ∀ i o, ops[i]? = some o → aoper ops o = some (ao i)
  edge : ∀ i o, ops[i]? = some o → ∀ e ∈ o.after, Region.binds .any e = true → e.on < i
  close : ∀ D : Nat → Bool, (∀ i o, ops[i]? = some o → D i = true → ∀ e ∈ o.after, Region.binds .any e = true → D e.on = true) →
    ∀ i o, ops[i]? = some o → (∀ e ∈ o.after, Region.binds .any e = true → D e.on = true) → ∀ j ∈ anc i, D j = true
  still : ∀ j i, j < i → i < n → j ∈ anc i ∨ ((∀ t, (ao j).dst = some t → t ∉ slotsOf (ao i)) ∧ (∀ t, (ao i).dst = some t → t ∉ slotsOf (ao j)) ∧ ∀ t, (ao j).dst = some t → (ao i).dst ≠ some t)
  apart : ∀ j i, j < i → i < n → j ∈ anc i ∨ ((∀ id ∈ (U j).map (·.1), id ∉ F i) ∧
    (∀ id ∈ (U i).map (·.1), id ∉ F j) ∧ ∀ id ∈ (U j).map (·.1), id ∉ (U i).map (·.1))
  steps : ∀ i, i < n → Go1 P T O (ao i) (stOf (fun i => (ao i).dst) V U s n (fun k => decide (k < i))) (F i) (V i) (U i)

theorem aoper_dst {ops : Array Oper} {o : Oper} {ao : AOper} (h : aoper ops o = some ao) : ao.dst = o.dst := by
  unfold aoper at h
  split at h
  · cases h; rfl
  · split at h
    · cases h; rfl
    · cases h

variable {ops : Array Oper} {n : Nat} (p : Plan P T O ops n)

def Plan.st (p : Plan P T O ops n) (D : Nat → Bool) : St := stOf (fun i => (p.ao i).dst) p.V p.U p.s n D

theorem listed_set {listed : Array Bool} {i : Nat} (hi : i < listed.size) (k : Nat) : (listed.setIfInBounds i true).getD k false = (decide (k = i) || listed.getD k false) := by
  simp only [Array.getD_eq_getD_getElem?, Array.getElem?_setIfInBounds]
  by_cases e : i = k
  · subst e; simp [hi]
  · simp [e, Ne.symm e]

include hT in
theorem go1_wpOp {i : Nat} {o : Oper} {ao : AOper} {w : World} {a : Act} {s : St} (hi : ops[i]? = some o) (hao : aoper ops o = some ao) (hd : ∀ k, o.dst = some k → k < B.N) {v : AV} {up : List (Nat × Option Box)} {F : List Nat}
    (hrel : Rel B w a s) (hs : Steps P T O ao s.env s.mem v up ∨ LentStep P T ao s.env s.mem F v up) {K : Act → World → Prop} {Q : Exit → Act → World → Prop}
    (hk : ∀ w' a', Rel B w' a' (s.app o.dst v up) → K a' w') : wpOp P ops Q i K a w := by
  rcases hs with hs | hs
  · exact steps_wpOp hT hi hao hd hrel hs hk
  · obtain ⟨hg, hf, f, args, ts, ho, g, as, ht, σ, r, m1, h1, _, h3, rfl, rfl⟩ := hs
    unfold wpOp
    rw [hi]
    simp only
    have hog : o.guard = none ∧ ao.op = o.op := by
      unfold aoper at hao
      split at hao
      · rename_i hgg; cases hao; exact ⟨hgg, rfl⟩
      · split at hao
        · cases hao; cases hg
        · cases hao
    unfold Region.wanted
    rw [hog.1]
    simp only [if_true]
    rw [hog.2] at hf ho
    exact .inl (boxes_wp hrel ho hf ht σ h1 h3 hd fun a' w' h => hk _ _ h)
include hT in
theorem any_sound (hd : ∀ i, i < n → ∀ t, (p.ao i).dst = some t → t < B.N) {Q : Exit → Act → World → Prop} (hQ : ∀ a w, Rel B w a (p.st fun _ => true) → Q .normal a w) :
    ∀ (fuel : Nat) (listed : Array Bool) (a : Act) (w : World), listed.size = n →
      (∀ i o, ops[i]? = some o → listed.getD i false = true → ∀ e ∈ o.after, Region.binds .any e = true → listed.getD e.on false = true) →
      ((List.range n).filter fun i => !listed.getD i false).length ≤ fuel → Rel B w a (p.st fun i => listed.getD i false) → wpAny P .any ops Q fuel listed a w := by
  have hsz := p.size
  have key : ∀ (listed : Array Bool) (a : Act) (w : World), listed.size = n → Region.ready .any ops listed = [] → Rel B w a (p.st fun i => listed.getD i false) → Q .normal a w := by
    intro listed a w hls hr hrel
    have hall : ∀ i, i < n → listed.getD i false = true := by
      intro i
      induction i using Nat.strongRecOn with
      | _ i ih =>
        intro hi
        cases hb : listed.getD i false with
        | true => rfl
        | false =>
          exfalso
          have hmem : i ∈ Region.ready .any ops listed := by
            rw [mem_ready]
            refine ⟨?_, ops[i]'(by omega), by simp [hsz, hi], fun e he hbd => ?_⟩
            · simp only [Array.getD_eq_getD_getElem?] at hb ⊢
              have : i < listed.size := by omega
              simpa [this] using hb
            · have hlt := p.edge i (ops[i]'(by omega)) (by simp [hsz, hi]) e he hbd
              exact ih e.on hlt (by omega)
          rw [hr] at hmem
          cases hmem
    refine hQ a w (hrel.same (fun t => ?_) fun id => ?_)
    · exact get_stOf _ _ _ _ _ t fun i hi _ => by simp only [hall i hi]
    · exact find_stOf _ _ _ _ _ id fun i hi _ => by simp only [hall i hi]
  intro fuel
  induction fuel with
  | zero =>
    intro listed a w hls hcl hfu hrel
    have hr : Region.ready .any ops listed = [] := by
      cases hq : Region.ready .any ops listed with
      | nil => rfl
      | cons i l =>
        exfalso
        have hmem : i ∈ Region.ready .any ops listed := by rw [hq]; simp
        obtain ⟨h1, o, ho, _⟩ := mem_ready.1 hmem
        have hi : i < n := by rw [← hsz]; exact (Array.getElem?_eq_some_iff.1 ho).1
        have : i ∈ (List.range n).filter fun i => !listed.getD i false := by
          rw [List.mem_filter]
          refine ⟨by simpa using hi, ?_⟩
          simp only [Array.getD_eq_getD_getElem?] at h1 ⊢
          have : i < listed.size := by omega
          simpa [this] using h1
        have hlen := List.length_pos_of_mem this
        omega
    exact ⟨hr, key listed a w hls hr hrel⟩
  | succ fuel ih =>
    intro listed a w hls hcl hfu hrel
    refine ⟨fun hr => key listed a w hls hr hrel, fun i hi => ?_⟩
    obtain ⟨h1, o, ho, hed⟩ := mem_ready.1 hi
    have hin : i < n := by rw [← hsz]; exact (Array.getElem?_eq_some_iff.1 ho).1
    have hDi : listed.getD i false = false := by
      simp only [Array.getD_eq_getD_getElem?] at h1 ⊢
      have : i < listed.size := by omega
      simpa [this] using h1
    have hanc : ∀ j ∈ p.anc i, listed.getD j false = true := p.close (fun k => listed.getD k false) hcl i o ho hed
    have hback : ∀ k, k < n → listed.getD k false = true → i ∉ p.anc k := by
      intro k hk hDk hmem
      have := p.close (fun k => listed.getD k false) hcl k (ops[k]'(by omega)) (by simp [hsz, hk]) (fun e he hb => hcl k _ (by simp [hsz, hk]) hDk e he hb) i hmem
      rw [hDi] at this
      cases this
    have hst : Steps P T O (p.ao i) (p.st fun i => listed.getD i false).env (p.st fun i => listed.getD i false).mem (p.V i) (p.U i) ∨ LentStep P T (p.ao i) (p.st fun i => listed.getD i false).env (p.st fun i => listed.getD i false).mem (p.F i) (p.V i) (p.U i) := by
      refine go1_local (p.steps i hin) (fun t ht => ?_) (fun id hid => ?_)
      · refine get_stOf _ _ _ _ _ t fun k hk hdk => ?_
        rcases Nat.lt_trichotomy k i with h | h | h
        · simp only [h, decide_true]
          rcases p.still k i h hin with h2 | h2
          · exact (hanc k h2).symm
          · exact absurd ht (h2.1 t hdk)
        · subst h; simp [hDi]
        · have : ¬ k < i := by omega
          simp only [this, decide_false]
          cases hDk : listed.getD k false with
          | false => rfl
          | true =>
            rcases p.still i k h hk with h2 | h2
            · exact absurd h2 (hback k hk hDk)
            · exact absurd ht (h2.2.1 t hdk)
      · refine find_stOf _ _ _ _ _ id fun k hk hdk => ?_
        rcases Nat.lt_trichotomy k i with h | h | h
        · simp only [h, decide_true]
          rcases p.apart k i h hin with h2 | h2
          · exact (hanc k h2).symm
          · exact absurd hid (h2.1 id hdk)
        · subst h; simp [hDi]
        · have : ¬ k < i := by omega
          simp only [this, decide_false]
          cases hDk : listed.getD k false with
          | false => rfl
          | true =>
            rcases p.apart i k h hk with h2 | h2
            · exact absurd h2 (hback k hk hDk)
            · exact absurd hid (h2.2.1 id hdk)
    have hao := p.oper i o ho
    have hdo := aoper_dst hao
    refine go1_wpOp hT ho hao (fun t ht => hd i hin t (by rw [hdo]; exact ht)) hrel hst fun w' a' hrel' => ?_
    refine ih (listed.setIfInBounds i true) a' w' (by simp [hls]) ?_ ?_ ?_
    · intro k ok hk hDk e he hb
      rw [listed_set (by omega)] at hDk ⊢
      by_cases hki : k = i
      · subst hki
        rw [ho] at hk
        cases hk
        rw [hed e he hb]
        simp
      · simp only [hki, decide_false, Bool.false_or] at hDk
        rw [hcl k ok hk hDk e he hb]
        simp
    · have hsub : ((List.range n).filter fun k => !(listed.setIfInBounds i true).getD k false).length < ((List.range n).filter fun k => !listed.getD k false).length := by
        have heq : ((List.range n).filter fun k => !(listed.setIfInBounds i true).getD k false) = ((List.range n).filter fun k => !listed.getD k false).filter fun k => !decide (k = i) := by
          rw [List.filter_filter]
          apply List.filter_congr
          intro k _
          rw [listed_set (by omega)]
          simp
        rw [heq]
        have hmem : i ∈ (List.range n).filter fun k => !listed.getD k false := by
          rw [List.mem_filter]
          exact ⟨by simpa using hin, by rw [hDi]; rfl⟩
        refine Nat.lt_of_le_of_ne (List.length_filter_le _ _) fun e => ?_
        have := (List.length_filter_eq_length_iff.1 e) i hmem
        simp at this
      omega
    · refine hrel'.same (fun t => ?_) fun id => ?_
      · by_cases ht : (p.ao i).dst = some t
        · have hl : get ((p.st fun i => listed.getD i false).app o.dst (p.V i) (p.U i)).env t = p.V i := by
            rw [← hdo, ht]
            simp [St.app, get]
          rw [hl]
          symm
          refine get_stOf_last _ _ _ _ _ hin (by rw [listed_set (by omega)]; simp) ht fun j hj hij hdj => ?_
          rw [listed_set (by omega)]
          have hji : ¬ j = i := by omega
          simp only [hji, decide_false, Bool.false_or]
          cases hDj : listed.getD j false with
          | false => rfl
          | true =>
            rcases p.still i j hij hj with h2 | h2
            · exact absurd h2 (hback j hj hDj)
            · exact absurd hdj (h2.2.2 t ht)
        · have hl : get ((p.st fun i => listed.getD i false).app o.dst (p.V i) (p.U i)).env t = get (p.st fun i => listed.getD i false).env t := by
            rw [← hdo]
            cases hdd : (p.ao i).dst with
            | none => rfl
            | some d =>
              have : t ≠ d := fun e => ht (by rw [hdd, e])
              simp [St.app, get, this]
          rw [hl]
          refine get_stOf _ _ _ _ _ t fun k hk hdk => ?_
          rw [listed_set (by omega)]
          have : k ≠ i := fun e => ht (by rw [← e]; exact hdk)
          simp [this]
      · by_cases ht : id ∈ (p.U i).map (·.1)
        · have hl : find ((p.st fun i => listed.getD i false).app o.dst (p.V i) (p.U i)).mem id = find (p.U i) id := by
            simp only [St.app]
            rw [find_append, if_pos ht]
          rw [hl]
          symm
          refine find_stOf_last _ _ _ _ _ hin (by rw [listed_set (by omega)]; simp) ht fun j hj hij hdj => ?_
          rw [listed_set (by omega)]
          have hji : ¬ j = i := by omega
          simp only [hji, decide_false, Bool.false_or]
          cases hDj : listed.getD j false with
          | false => rfl
          | true =>
            rcases p.apart i j hij hj with h2 | h2
            · exact absurd h2 (hback j hj hDj)
            · exact absurd hdj (h2.2.2 id ht)
        · have hl : find ((p.st fun i => listed.getD i false).app o.dst (p.V i) (p.U i)).mem id = find (p.st fun i => listed.getD i false).mem id := by
            simp only [St.app]
            rw [find_append, if_neg ht]
          rw [hl]
          refine find_stOf _ _ _ _ _ id fun k hk hdk => ?_
          rw [listed_set (by omega)]
          have : k ≠ i := fun e => ht (by rw [← e]; exact hdk)
          simp [this]

end
end Go.Abs
end
