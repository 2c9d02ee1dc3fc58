/- Part 9 of the proof: the value layer and the contracts of the functions that the statement reaches; proved without conditions beyond those each theorem states. -/
import Derived.Tactics
import Derived.Tactics2
import Derived.LoopTactic
import Derived.LoopN
import Derived.Laws.IdiomRangeMap
import Derived.Maps.RangeRun
import Derived.Test.YtkhddecnllcaiaaV5
import Derived.Test.YtkhddecnllcaiaaV6
import Derived.Test.YtkhddecnllcaiaaV7
import Derived.Test.YtkhddecnllcaiaaV8
set_option linter.unusedSimpArgs false
set_option linter.unusedVariables false

section
/- Contracts: feed's IsCalm and One, whole. -/
namespace Go.Proofs.Ytkhddecnllcaiaa
open Go.Abs Go
set_option maxRecDepth 20000
set_option maxHeartbeats 2000000
attribute [local irreducible] PreK CondK CallK CallG CallX LoopK
attribute [local simp] avsEq avEq akind teq vkind vEq

noncomputable def CalmE (s : List Rule) (w : Word) : Bool × Int := if swErr s w ≠ 0 then (false, swErr s w) else match reachG s w with
  | none => (false, 3)
  | some g => (calmB (rowsG s g), 0)
theorem IsCalm_c (s : List Rule) (w : List Int) (h : Sys.small s) (hw : w.length ≤ 1000) : CallP Try.prog 22 [rulesV s, ints w] (.tup [bv (CalmE s w).1, iv (CalmE s w).2]) := by
  have hrc := reached_c s w h hw
  by_cases h1 : swErr s w = 0
  · have e1 : reachedV s w = reachV s (reachG s w) := by simp [reachedV, h1]
    rw [e1] at hrc
    cases hg : reachG s w with
    | none =>
      rw [hg] at hrc
      have e2 : CalmE s w = (false, 3) := by simp [CalmE, h1, hg]
      rw [e2]
      simp only [reachV] at hrc
      refine C22 (by simp) ?_
      simp [A22]
      try simp 
      repeat' (first
        | (refine CallX.pure (hrc) (by simp) (by simp) ?_; try simp )
        | (refine CallK.intro (hrc) (by simp) (by simp) ?_; try simp )
        | (refine CallG.intro (fun _ => hrc) (by simp) (by simp) ?_; try simp )
        | ((with_reducible refine PreK.intro ?_ ?_); (next => (first | omega | (intros; first | omega | (refine ⟨by omega, ?_⟩; repeat (first | assumption | constructor)) | assumption))); intro _; try simp )
        | fail)
      refine CondK.intro (fun h2 => ?_) (fun h2 => ?_)
      · try simp 
        repeat' (first
          | ((with_reducible refine PreK.intro ?_ ?_); (next => (first | omega | (intros; first | omega | (refine ⟨by omega, ?_⟩; repeat (first | assumption | constructor)) | assumption))); intro _; try simp )
          | fail)
      · simp at h2
    | some g =>
      have e2 : CalmE s w = (calmB (rowsG s g), 0) := by simp [CalmE, h1, hg]
      rw [e2]
      exact isCalm_c s w h hw g h1 hg
  · have e1 : reachedV s w = .tup [.raw (.pointer none), iv (swErr s w)] := by simp [reachedV, h1]
    rw [e1] at hrc
    have e2 : CalmE s w = (false, swErr s w) := by simp [CalmE, h1]
    rw [e2]
    refine C22 (by simp) ?_
    simp [A22]
    try simp 
    repeat' (first
      | (refine CallX.pure (hrc) (by simp) (by simp) ?_; try simp )
      | (refine CallK.intro (hrc) (by simp) (by simp) ?_; try simp )
      | (refine CallG.intro (fun _ => hrc) (by simp) (by simp) ?_; try simp )
      | ((with_reducible refine PreK.intro ?_ ?_); (next => (first | omega | (intros; first | omega | (refine ⟨by omega, ?_⟩; repeat (first | assumption | constructor)) | assumption))); intro _; try simp )
      | fail)
    refine CondK.intro (fun h2 => ?_) (fun h2 => ?_)
    · try simp 
      repeat' (first
        | ((with_reducible refine PreK.intro ?_ ?_); (next => (first | omega | (intros; first | omega | (refine ⟨by omega, ?_⟩; repeat (first | assumption | constructor)) | assumption))); intro _; try simp )
        | fail)
    · simp at h2
      exact absurd h2 h1
/-- The only one of a list, if no steps go on for ever. -/
def oneR (ok : Bool) (l : List Word) : Word × Bool := if ok && decide (l.length = 1) then (el l 0, true) else ([], false)
def OneE (s : List Rule) (w : Word) : Word × Bool × Int := if swErr s w ≠ 0 then ([], false, swErr s w) else match reachG s w with
  | none => ([], false, 3)
  | some g => ((oneR (LongestG s g).2 (uniq (g.ws.filter (isEndM s)))).1, (oneR (LongestG s g).2 (uniq (g.ws.filter (isEndM s)))).2, 0)
theorem One_c (s : List Rule) (w : List Int) (h : Sys.small s) (hw : w.length ≤ 1000) : CallP Try.prog 23 [rulesV s, ints w] (.tup [ints (OneE s w).1, bv (OneE s w).2.1, iv (OneE s w).2.2]) := by
  refine C23 (by simp) ?_
  have hrc := reached_c s w h hw
  by_cases h1 : swErr s w = 0
  · have e1 : reachedV s w = reachV s (reachG s w) := by simp [reachedV, h1]
    rw [e1] at hrc
    cases hg : reachG s w with
    | none =>
      rw [hg] at hrc
      have e2 : OneE s w = ([], false, 3) := by simp [OneE, h1, hg]
      rw [e2]
      simp only [reachV] at hrc
      simp [A23]
      try simp 
      repeat' (first
        | (refine CallX.pure (hrc) (by simp) (by simp) ?_; try simp )
        | (refine CallK.intro (hrc) (by simp) (by simp) ?_; try simp )
        | (refine CallG.intro (fun _ => hrc) (by simp) (by simp) ?_; try simp )
        | ((with_reducible refine PreK.intro ?_ ?_); (next => (first | omega | (intros; first | omega | (refine ⟨by omega, ?_⟩; repeat (first | assumption | constructor)) | assumption))); intro _; try simp )
        | fail)
      refine CondK.intro (fun h2 => ?_) (fun h2 => ?_)
      · try simp 
        repeat' (first
          | ((with_reducible refine PreK.intro ?_ ?_); (next => (first | omega | (intros; first | omega | (refine ⟨by omega, ?_⟩; repeat (first | assumption | constructor)) | assumption))); intro _; try simp )
          | fail)
      · simp at h2
    | some g =>
      rw [hg] at hrc
      have hec := ends_c s g h (swErr_zero h1).1 (reachG_ok h1 hg)
      have hlc := longest_c s g h (swErr_zero h1).1 (reachG_ok h1 hg) (shut_of hg)
      have e2 : OneE s w = ((oneR (LongestG s g).2 (uniq (g.ws.filter (isEndM s)))).1, (oneR (LongestG s g).2 (uniq (g.ws.filter (isEndM s)))).2, 0) := by simp [OneE, h1, hg]
      rw [e2]
      simp only [reachV, graphV] at hrc
      simp only [graphV] at hec hlc
      generalize uniq (g.ws.filter (isEndM s)) = U at hec
      generalize LongestG s g = L at hlc
      obtain ⟨L1, L2⟩ := L
      dsimp only at hlc
      simp [A23]
      try simp 
      repeat' (first
        | (refine CallX.pure (hrc) (by simp) (by simp) ?_; try simp )
        | (refine CallK.intro (hrc) (by simp) (by simp) ?_; try simp )
        | (refine CallG.intro (fun _ => hrc) (by simp) (by simp) ?_; try simp )
        | ((with_reducible refine PreK.intro ?_ ?_); (next => (first | omega | (intros; first | omega | (refine ⟨by omega, ?_⟩; repeat (first | assumption | constructor)) | assumption))); intro _; try simp )
        | fail)
      refine CondK.intro (fun h2 => ?_) (fun h2 => ?_)
      · simp at h2
      · try simp 
        repeat' (first
          | (refine CallX.pure (hec) (by simp) (by simp) ?_; try simp )
          | (refine CallK.intro (hec) (by simp) (by simp) ?_; try simp )
          | (refine CallG.intro (fun _ => hec) (by simp) (by simp) ?_; try simp )
          | (refine CallX.pure (hlc) (by simp) (by simp) ?_; try simp )
          | (refine CallK.intro (hlc) (by simp) (by simp) ?_; try simp )
          | (refine CallG.intro (fun _ => hlc) (by simp) (by simp) ?_; try simp )
          | ((with_reducible refine PreK.intro ?_ ?_); (next => (first | omega | (intros; first | omega | (refine ⟨by omega, ?_⟩; repeat (first | assumption | constructor)) | assumption))); intro _; try simp )
          | fail)
        cases L2
        · have e3 : oneR false U = ([], false) := rfl
          rw [e3]
          try simp 
          repeat (refine PreK.intro (by first | omega | (intros; first | omega | (refine ⟨by omega, ?_⟩; simp_all; done) | (simp_all; done) | (simp_all; omega))) fun _ => ?_; (try simp ))
          refine CondK.tt ?_
          try simp 
          try simp 
          repeat' (first
            | ((with_reducible refine PreK.intro ?_ ?_); (next => (first | omega | (intros; first | omega | (refine ⟨by omega, ?_⟩; repeat (first | assumption | constructor)) | assumption))); intro _; try simp )
            | fail)
        · by_cases hu : U.length = 1
          · have e3 : oneR true U = (el U 0, true) := by simp [oneR, hu]
            rw [e3]
            have hu0 : 0 < U.length := by omega
            have hui : (U.length : Int) = 1 := by omega
            try simp [hu, hui]
            repeat (refine PreK.intro (by first | omega | (intros; first | omega | (refine ⟨by omega, ?_⟩; simp_all; done) | (simp_all; done) | (simp_all; omega))) fun _ => ?_; (try simp [hu, hui]))
            refine CondK.ff ?_
            try simp 
            try simp [hu, hui, hu0]
            repeat (refine PreK.intro (by first | omega | (intros; first | omega | (refine ⟨by omega, ?_⟩; simp_all; done) | (simp_all; done) | (simp_all; omega))) fun _ => ?_; (try simp [hu, hui, hu0]))
          · have e3 : oneR true U = ([], false) := by simp [oneR, hu]
            rw [e3]
            have hui : ¬ (U.length : Int) = 1 := by omega
            try simp [hu, hui]
            repeat (refine PreK.intro (by first | omega | (intros; first | omega | (refine ⟨by omega, ?_⟩; simp_all; done) | (simp_all; done) | (simp_all; omega))) fun _ => ?_; (try simp [hu, hui]))
            refine CondK.tt ?_
            try simp 
            try simp 
            repeat' (first
              | ((with_reducible refine PreK.intro ?_ ?_); (next => (first | omega | (intros; first | omega | (refine ⟨by omega, ?_⟩; repeat (first | assumption | constructor)) | assumption))); intro _; try simp )
              | fail)
  · have e1 : reachedV s w = .tup [.raw (.pointer none), iv (swErr s w)] := by simp [reachedV, h1]
    rw [e1] at hrc
    have e2 : OneE s w = ([], false, swErr s w) := by simp [OneE, h1]
    rw [e2]
    simp [A23]
    try simp 
    repeat' (first
      | (refine CallX.pure (hrc) (by simp) (by simp) ?_; try simp )
      | (refine CallK.intro (hrc) (by simp) (by simp) ?_; try simp )
      | (refine CallG.intro (fun _ => hrc) (by simp) (by simp) ?_; try simp )
      | ((with_reducible refine PreK.intro ?_ ?_); (next => (first | omega | (intros; first | omega | (refine ⟨by omega, ?_⟩; repeat (first | assumption | constructor)) | assumption))); intro _; try simp )
      | fail)
    refine CondK.intro (fun h2 => ?_) (fun h2 => ?_)
    · try simp 
      repeat' (first
        | ((with_reducible refine PreK.intro ?_ ?_); (next => (first | omega | (intros; first | omega | (refine ⟨by omega, ?_⟩; repeat (first | assumption | constructor)) | assumption))); intro _; try simp )
        | fail)
    · simp at h2
      exact absurd h2 h1
/-- A calm word whose steps do not go on for ever has one end. -/
theorem allOK_of {s : List Rule} {w : Word} {g : Gr} (h : reachG s w = some g) : AllOK (nxP s) w g.ws := by
  obtain ⟨h1, h2⟩ := closed_mem h
  exact ⟨h1 0 w .zero, h2, h1⟩
theorem nodup_of {s : List Rule} {w : Word} {g : Gr} (h : reachG s w = some g) : g.ws.Nodup := by
  have h1 := reachG_F s w
  rw [h] at h1
  cases hc : closeM (nxP s) w with
  | none => rw [hc] at h1; exact h1.elim
  | some ws =>
    rw [hc] at h1
    rw [h1.words]
    exact (closeM_some hc).nodup
theorem end_iff {s : List Rule} {u : Word} : isEndM s u = true ↔ nxP s u = [] := by
  unfold isEndM nxP
  simp
theorem calm_law {s : List Rule} {w : Word} (h : (CalmE s w).2 = 0) : (OneE s w).2.2 = 0 ∧ (ForeverE s w).2 = 0 ∧ ((CalmE s w).1 = true → (ForeverE s w).1 = false → (OneE s w).2.1 = true) := by
  unfold CalmE at h ⊢
  unfold OneE ForeverE LongestE
  by_cases h0 : swErr s w = 0
  · simp only [h0, ne_eq, not_true_eq_false, if_false] at h ⊢
    cases hg : reachG s w with
    | none => rw [hg] at h; cases h
    | some g =>
      dsimp only
      have hok := reachG_ok h0 hg
      refine ⟨rfl, rfl, fun hc hf => ?_⟩
      have hl : (LongestG s g).2 = true := by simpa using hf
      have hL := longestG_spec hg hok
      rw [hl] at hL
      have hcalm := (calm_iff (allOK_of hg) (nodup_of hg) (rowsG_for hok (shut_of hg))).1 hc
      obtain ⟨e, k, hr, he, hall⟩ := calm_one hcalm hL
      have hmem : ∀ z, z ∈ uniq (g.ws.filter (isEndM s)) ↔ z = e := by
        intro z
        rw [(uniq_sorted _).2, List.mem_filter]
        constructor
        · rintro ⟨h1, h2⟩
          obtain ⟨j, hj⟩ := (closed_mem hg).2 z h1
          exact hall j z hj (end_iff.1 h2)
        · rintro rfl
          exact ⟨(closed_mem hg).1 k z hr, end_iff.2 he⟩
      have hone : (uniq (g.ws.filter (isEndM s))).length = 1 := by
        have hs := (uniq_sorted (g.ws.filter (isEndM s))).1
        generalize uniq (g.ws.filter (isEndM s)) = U at hs hmem
        match U, hs, hmem with
        | [], _, hm => exact absurd ((hm e).2 rfl) (by simp)
        | [x], _, _ => rfl
        | x :: y :: l, hs, hm =>
          have hx := (hm x).1 (by simp)
          have hy := (hm y).1 (by simp)
          subst hx
          subst hy
          have := (List.pairwise_cons.1 hs).1 y (by simp)
          rw [bef_irr] at this
          cases this
      simp [oneR, hl, hone]
  · simp only [h0, ne_eq, not_false_eq_true, if_true] at h
end Go.Proofs.Ytkhddecnllcaiaa
end

section
/- Contract: whether two words reach a common one: a walk over the entries of a map, in any order. -/
namespace Go.Proofs.Ytkhddecnllcaiaa
open Go.Abs Go

/-- A world that differs by draws alone. -/
def Drw (w1 w : World) : Prop := w1.heap = w.heap ∧ w1.os = w.os ∧ w1.output = w.output ∧ w1.tape = w.tape ∧ w.drawn ≤ w1.drawn
theorem Drw.trans {a b c : World} (h : Drw a b) (k : Drw b c) : Drw a c := ⟨h.1.trans k.1, h.2.1.trans k.2.1, h.2.2.1.trans k.2.2.1, h.2.2.2.1.trans k.2.2.2.1, Nat.le_trans k.2.2.2.2 h.2.2.2.2⟩
theorem setBlock_last (w : World) (x y : Obj) : ChangeMaps.setBlock (w.alloc x) w.heap.size y = w.alloc y := by
  have hp : ∀ (h : Array Obj) (x y : Obj), (h.push x).setIfInBounds h.size y = h.push y := by
    intro h x y
    apply Array.toList_inj.1
    simp
  show ({ w.alloc x with heap := (w.heap.push x).setIfInBounds w.heap.size y } : World) = _
  rw [hp]
  rfl
theorem next_map2 {P : Program} (w : World) (ty : TypeId) (bm since c0 : Nat) (seen : Array Nat) (es : Array MapEntry) (clock : Nat) (hb : w.heap[bm]? = some (.map es clock)) (hold : ∀ x ∈ es.toList, x.born < since) (hsc : since ≤ c0) :
    ((leftOf es seen).size = 0 ∧ (Instr.next (.pointer (some ⟨w.heap.size, 0, none⟩)) false ty).run P (w.alloc (.mapIter (some bm) since seen c0)) = .ok (.tuple #[.bool false]) (w.alloc (.mapIter (some bm) since seen c0))) ∨
    ∃ e ∈ (leftOf es seen).toList, ∃ w1 : World, Drw w1 w ∧ (Instr.next (.pointer (some ⟨w.heap.size, 0, none⟩)) false ty).run P (w.alloc (.mapIter (some bm) since seen c0)) = .ok (.tuple #[.bool true, e.key, e.val]) (w1.alloc (.mapIter (some bm) since (seen.push e.born) clock)) := by
  have hlt : bm < w.heap.size := lt_of_heap hb
  have hb' : (w.alloc (.mapIter (some bm) since seen c0)).heap[bm]? = some (.map es clock) := by rw [Go.Abs.alloc_old w _ hlt, hb]
  rcases run_next_at (P := P) (w.alloc (.mapIter (some bm) since seen c0)) ty w.heap.size bm since c0 seen es clock (Go.Abs.alloc_new w _) hb' hold hsc with h | ⟨e, he, w1, hw1, hrun⟩
  · exact .inl h
  · right
    rcases hw1 with rfl | rfl
    · exact ⟨e, he, w, ⟨rfl, rfl, rfl, rfl, Nat.le_refl _⟩, by rw [hrun, setBlock_last]⟩
    · exact ⟨e, he, w.drew, ⟨rfl, rfl, rfl, rfl, Nat.le_succ _⟩, by rw [hrun]; exact congrArg _ (setBlock_last w.drew _ _)⟩
/-- Whether there is a value under a string key. -/
theorem look_at {W : World} {X : Nat → Prop} {l : List AV} {g clock : Nat} {es : Array MapEntry} (hb : W.heap[g]? = some (.map es clock)) (hs : es.size = l.length)
    (hr : ∀ i, i < l.length → Rep W X Mu.none (l.getD i .junk) (entV es i)) (hk : keysOK .str l = true) (k : ByteArray) :
    ∃ vv, (Instr.lookup 91 (.map (some g)) (.string k) true).run Try.prog W = .ok (.tuple #[vv, .bool (mfind (.str k) l 0).isSome]) W := by
  obtain ⟨hd, hR⟩ := map_desc (t := 91) (kk := .str) tok (by simp [tknown, T_91]) (by simp [tkind, T_91]; exact ⟨rfl, rfl⟩)
  have hr' : ∀ i, i < l.length → Rep W X Mu.none (l.getD i .junk) ((es.toList.map entP).getD i undef) := fun i hi => by rw [entV_list]; exact hr i hi
  have hkeys := keysOK_rep (kk := .str) (es := es.toList) (by simpa using hs) hr' hk
  have hfind := hR.fnd (.string k) (.str k) es.toList W rfl rfl hkeys
  have hchk := hR.chk es.isEmpty (.string k) (.str k) W rfl rfl
  obtain ⟨z, hz, _⟩ := (tok 3 _ T_3).run_zero W
  rcases mfind_rep (k := .str k) (es := es.toList) (by simpa using hs) hr' hk 0 with ⟨h1, h2⟩ | ⟨j, av, vv, h1, h2, _, h4⟩
  · rw [h2] at hfind
    rw [h1]
    exact ⟨z, by simp [Instr.lookup, run_underlying hd, MapKept.run_getObj_map hb, hchk, hfind, hz]⟩
  · rw [h2] at hfind
    rw [h1]
    exact ⟨vv, by simp [Instr.lookup, run_underlying hd, MapKept.run_getObj_map hb, hchk, hfind]⟩
/-- A graph in memory: where its map is. -/
theorem graph_at {w : World} {X : Nat → Prop} {s : List Rule} {g : Gr} {v : Value} (h : Rep w X Mu.none (.ipt (graphV s g) 0) v) :
    ∃ p o gm es clock, v = .pointer (some ⟨p, o, none⟩) ∧ (∃ c el fr, w.heap[p]? = some (.cells c el fr) ∧ o + 5 ≤ c.size ∧ c.getD (o + 2) undef = .map (some gm)) ∧ w.heap[gm]? = some (.map es clock) ∧ Stamp es clock g.ws.length ∧
      ∀ i, i < (entsF 0 g.ws).length → Rep w X Mu.none ((entsF 0 g.ws).getD i .junk) (entV es i) := by
  cases h with
  | @ipt _ _ _ b off c el fr hX hb hfit h1 h2 =>
    have hw : (graphV s g).width = 5 := rfl
    rw [hw] at hfit
    have h3 := rep_cell (o := 2) h2 (by rw [hw]; exact hfit) (by rw [hw]; omega)
    have h4 : Rep w X Mu.none (.map (entsF 0 g.ws)) (c.getD (off + 2) undef) := h3
    generalize hv : c.getD (off + 2) undef = u at h4
    cases h4 with
    | map hY hbm hs hbig hr =>
      exact ⟨b, off, _, _, _, rfl, ⟨c, el, fr, hb, hfit, hv⟩, hbm, by simpa [entsF_len] using hs, hr⟩
/-- Whether an entry's key is one of these words'. -/
def hitM (l : List Word) (x : MapEntry) : Bool := match x.key with
  | .string k => (mfind (.str k) (entsF 0 l) 0).isSome
  | _ => false
theorem entsF_at : ∀ (l : List Word) (k i : Nat), i < l.length → (entsF k l).getD i .junk = .tup [keyV (el l i), iv ((k + i : Nat) : Int)]
  | x :: l, k, 0, _ => by simp [entsF, el]
  | x :: l, k, i + 1, h => by
    have := entsF_at l (k + 1) i (by simpa using h)
    simp only [entsF, List.getD_cons_succ]
    rw [this, show k + 1 + i = k + (i + 1) by omega]
    rfl
theorem ent_key {w : World} {X : Nat → Prop} {x : Word} {n : Int} {es : Array MapEntry} {i : Nat} (hi : i < es.size) (h : Rep w X Mu.none (.tup [keyV x, iv n]) (entV es i)) : es[i].key = .string (keyS x) := by
  have e : entV es i = .tuple #[es[i].key, es[i].val] := by
    unfold entV entP
    simp [Array.getD_eq_getD_getElem?, hi]
  rw [e] at h
  cases h with
  | tup hs hh =>
    have := hh 0 (by simp)
    simp only [keyV, List.getD_cons_zero] at this
    have := this.one.1
    simpa [Array.getD_eq_getD_getElem?] using this
theorem hit_word {l : List Word} {k x : Word} {e : MapEntry} (hl : ∀ y ∈ l, fine y) (hx : fine x) (he : e.key = .string (keyS x)) : hitM l e = decide (x ∈ l) := by
  unfold hitM
  rw [he]
  by_cases h : x ∈ l
  · obtain ⟨i, _, _, h3⟩ := mfind_some (k := 0) (j := 0) hl h
    simp [h3, h]
  · have := mfind_none (k := 0) (j := 0) hl hx h
    simp [this, h]
theorem hit_any {w : World} {X : Nat → Prop} {a b : List Word} {es : Array MapEntry} (ha : ∀ y ∈ a, fine y) (hb : ∀ y ∈ b, fine y) (hs : es.size = a.length) (hr : ∀ i, i < (entsF 0 a).length → Rep w X Mu.none ((entsF 0 a).getD i .junk) (entV es i)) :
    (es.toList.any (hitM b)) = a.any fun x => decide (x ∈ b) := by
  have hkey : ∀ i (hi : i < es.size), es[i].key = .string (keyS (el a i)) := by
    intro i hi
    have := hr i (by rw [entsF_len]; omega)
    rw [entsF_at a 0 i (by omega)] at this
    exact ent_key hi this
  rw [Bool.eq_iff_iff, List.any_eq_true, List.any_eq_true]
  constructor
  · rintro ⟨e, he, hh⟩
    obtain ⟨i, hi, rfl⟩ := List.getElem_of_mem he
    have hi' : i < es.size := by simpa using hi
    have hm : el a i ∈ a := el_mem_of a i (by omega)
    have hk := hkey i hi'
    rw [Array.getElem_toList] at hh
    rw [hit_word (k := []) hb (ha _ hm) hk] at hh
    exact ⟨_, hm, hh⟩
  · rintro ⟨x, hx, hh⟩
    obtain ⟨i, hi, rfl⟩ := List.getElem_of_mem hx
    have hi' : i < es.size := by omega
    refine ⟨es[i], by simp, ?_⟩
    rw [hit_word (k := []) hb (ha _ hx) (by rw [hkey i hi', el_eq _ _ hi])]
    exact hh
theorem ent_string {w : World} {X : Nat → Prop} {a : List Word} {es : Array MapEntry} (hs : es.size = a.length) (hr : ∀ i, i < (entsF 0 a).length → Rep w X Mu.none ((entsF 0 a).getD i .junk) (entV es i)) {e : MapEntry} (he : e ∈ es.toList) : ∃ k, e.key = .string k := by
  obtain ⟨i, hi, rfl⟩ := List.getElem_of_mem he
  have hi' : i < es.size := by simpa using hi
  have := hr i (by rw [entsF_len]; omega)
  rw [entsF_at a 0 i (by omega)] at this
  exact ⟨_, by simpa using ent_key hi' this⟩

set_option maxRecDepth 1000000 in
theorem meet_walk (pa oa ga ca pb ob gb : Nat) (esa : Array MapEntry) (b : List Word) (w : World) (hga : w.heap[ga]? = some (.map esa ca)) (hst : Stamp esa ca esa.size)
    (hka : ∀ e ∈ esa.toList, ∃ k, e.key = .string k)
    (hA : ∀ (w1 : World) (o : Obj), Drw w1 w → (w1.alloc o).cell? ⟨pa, oa + 2, none⟩ = some (.map (some ga)))
    (hA0 : w.cell? ⟨pa, oa + 2, none⟩ = some (.map (some ga)))
    (hB : ∀ (w1 : World) (o : Obj), Drw w1 w → (w1.alloc o).cell? ⟨pb, ob + 2, none⟩ = some (.map (some gb)))
    (hL : ∀ (w1 : World) (o : Obj), Drw w1 w → ∀ k, ∃ vv, (Instr.lookup 91 (.map (some gb)) (.string k) true).run Try.prog (w1.alloc o) = .ok (.tuple #[vv, .bool (mfind (.str k) (entsF 0 b) 0).isSome]) (w1.alloc o)) :
    Calls Try.prog 73 #[.pointer (some ⟨pa, oa, none⟩), .pointer (some ⟨pb, ob, none⟩)] w fun e w' => e = .returned (.bool (esa.toList.any (hitM b))) ∧ ∃ (w1 : World) (seen : Array Nat), Drw w1 w ∧ w' = w1.alloc (.mapIter (some ga) ca seen ca) := by
  obtain ⟨_, hold, hnd⟩ := hst
  obtain ⟨kt, et, hu⟩ : ∃ k e, Try.prog.underlying 91 = some (.map k e) := by
    obtain ⟨d, hd, hk⟩ := (tok 91 _ T_91).desc
    exact ⟨_, _, hk.1 ▸ hd⟩
  have hrg := run_range_map (P := Try.prog) w 91 kt et ga esa ca hu hga
  go_enter Try.func73, Try.ntmps73
  go_wp2
  go_loopw [] (fun w' => ∃ (w1 : World) (seen : Array Nat), Drw w1 w ∧ w' = w1.alloc (.mapIter (some ga) ca seen ca) ∧ ∀ x ∈ esa.toList, seen.contains x.born = true → hitM b x = false) (fun w' => (leftOf esa (w'.iterSeen w.heap.size)).size)
  case atStart => exact ⟨w, #[], ⟨rfl, rfl, rfl, rfl, Nat.le_refl _⟩, rfl, fun x _ h => by simp at h⟩
  case round =>
    obtain ⟨w1, seen, hal, rfl, hno⟩ := hrel
    have hsz : w1.heap.size = w.heap.size := by rw [hal.1]
    have hb1 : w1.heap[ga]? = some (.map esa ca) := by rw [hal.1]; exact hga
    have law := next_map2 (P := Try.prog) w1 0 ga ca ca seen esa ca hb1 hold (Nat.le_refl _)
    rw [hsz] at law
    rcases law with ⟨h0, hrun⟩ | ⟨e, he, w2, hal2, hrun⟩
    · have hnx : ∀ ty, (Instr.next (.pointer (some ⟨w.heap.size, 0, none⟩)) false ty).run Try.prog (w1.alloc (.mapIter (some ga) ca seen ca)) = _ := fun _ => hrun
      go_wp2
      go_ret
      have hf : (esa.toList.any (hitM b)) = false := by
        rw [List.any_eq_false]
        intro x hx
        have := hno x hx (all_seen esa seen h0 x hx)
        simpa using this
      rw [hf]
      exact ⟨rfl, w1, seen, hal, rfl⟩
    · obtain ⟨k, hkey⟩ := hka e (mem_left he).1
      rw [hkey] at hrun
      have hnx : ∀ ty, (Instr.next (.pointer (some ⟨w.heap.size, 0, none⟩)) false ty).run Try.prog (w1.alloc (.mapIter (some ga) ca seen ca)) = _ := fun _ => hrun
      have hsz2 : w2.heap.size = w.heap.size := by rw [hal2.1, hal.1]
      have hb2 : w2.heap[ga]? = some (.map esa ca) := by rw [hal2.1]; exact hb1
      have hen := run_entry_map (P := Try.prog) w2 ga ca seen esa ca e hb2 (mem_left he).1 hnd
      rw [hsz2, hkey] at hen
      have hal3 : Drw w2 w := hal2.trans hal
      have hB2 := hB w2 (.mapIter (some ga) ca (seen.push e.born) ca) hal3
      obtain ⟨vv, hlk⟩ := hL w2 (.mapIter (some ga) ca (seen.push e.born) ca) hal3 k
      have hhit : hitM b e = (mfind (.str k) (entsF 0 b) 0).isSome := by unfold hitM; rw [hkey]
      rw [← hhit] at hlk
      cases hh : hitM b e
      · rw [hh] at hlk
        go_wp2
        go_roundw
        case rel =>
          refine ⟨w2, seen.push e.born, hal3, rfl, fun x hx hc => ?_⟩
          rw [contains_push] at hc
          rcases Bool.or_eq_true _ _ ▸ hc with h1 | h1
          · exact hno x hx h1
          · have : x = e := born_inj hnd hx (mem_left he).1 (beq_iff_eq.1 h1)
            subst this
            exact hh
        case measure =>
          rw [← hsz2, World.iterSeen_alloc, hsz2, ← hsz, World.iterSeen_alloc]
          exact left_shrinks esa seen e he
      · rw [hh] at hlk
        go_wp2
        go_ret
        have ht : (esa.toList.any (hitM b)) = true := List.any_eq_true.2 ⟨e, (mem_left he).1, hh⟩
        rw [ht]
        exact ⟨rfl, w2, _, hal3, rfl⟩
theorem meet_c (s : List Rule) (a b : Gr) (ha : a.ok) (hb : b.ok) : CallP Try.prog 73 [.ipt (graphV s a) 0, .ipt (graphV s b) 0] (bv (a.ws.any fun x => decide (x ∈ b.ws))) := by
  refine ⟨⟨_, Try.func73, by decide +kernel, by simp [Try.f73]⟩, fun w X vs hX hlen hargs => ?_⟩
  obtain ⟨v0, v1, rfl⟩ : ∃ v0 v1, vs = #[v0, v1] := by
    cases vs with
    | mk l =>
      match l, hlen with
      | [x, y], _ => exact ⟨x, y, rfl⟩
  have h0 : Rep w X Mu.none (.ipt (graphV s a) 0) v0 := hargs 0 (by simp)
  have h1 : Rep w X Mu.none (.ipt (graphV s b) 0) v1 := hargs 1 (by simp)
  obtain ⟨pa, oa, ga, esa, ca, rfl, ⟨da, ela, fra, hpa, hoa, hda⟩, hga, hsa, hra⟩ := graph_at h0
  obtain ⟨pb, ob, gb, esb, cb, rfl, ⟨db, elb, frb, hpb, hob, hdb⟩, hgb, hsb, hrb⟩ := graph_at h1
  have hfa : ∀ y ∈ a.ws, fine y := fun y hy => fine_of (ha.fine y hy)
  have hfb : ∀ y ∈ b.ws, fine y := fun y hy => fine_of (hb.fine y hy)
  have hold : ∀ (w1 : World) (o : Obj) (q : Nat), Drw w1 w → q < w.heap.size → (w1.alloc o).heap[q]? = w.heap[q]? := by
    intro w1 o q hal hq
    rw [Go.Abs.alloc_old w1 o (by rw [hal.1]; exact hq), hal.1]
  have hcell : ∀ (W : World) {p o gm : Nat} {c : Array Value} {el : TypeId} {fr : Nat × Nat}, W.heap[p]? = some (.cells c el fr) → o + 5 ≤ c.size → c.getD (o + 2) undef = .map (some gm) → W.cell? ⟨p, o + 2, none⟩ = some (.map (some gm)) := by
    intro W p o gm c el fr h1 h2 h3
    rw [cell_heap h1 (by omega), h3]
  have := meet_walk pa oa ga ca pb ob gb esa b.ws w hga (by rw [hsa.1]; exact hsa) (fun e he => ent_string hsa.1 hra he)
    (fun w1 o hal => hcell _ ((hold w1 o pa hal (lt_of_heap hpa)).trans hpa) hoa hda) (hcell _ hpa hoa hda)
    (fun w1 o hal => hcell _ ((hold w1 o pb hal (lt_of_heap hpb)).trans hpb) hob hdb)
    (fun w1 o hal k => look_at ((hold w1 o gb hal (lt_of_heap hgb)).trans hgb) (by rw [entsF_len]; exact hsb.1) (fun i hi => (hrb i hi).mono (fun q hq hlt => ⟨hq, hold w1 o q hal hlt⟩) (Mu.later.refl _)) (keysOK_ents 0 b.ws) k)
  rw [hit_any hfa hfb hsa.1 hra] at this
  refine Calls.mono this ?_
  rintro e w' ⟨rfl, w1, seen, hal, rfl⟩
  refine ⟨_, rfl, ?_, .raw rfl⟩
  have hx := Grows.alloc w1 (.mapIter (some ga) ca seen ca)
  exact Grows.trans ⟨⟨hal.2.1, hal.2.2.2.2⟩, hal.2.2.2.1, hal.2.2.1, by rw [hal.1]; exact Nat.le_refl _, fun q _ => by rw [hal.1]⟩ hx
end Go.Proofs.Ytkhddecnllcaiaa
end

section
/- Contracts: the reference's weights; the statement FeedWeights. -/
namespace Go.Proofs.Ytkhddecnllcaiaa
open Go.Abs Go
attribute [local simp] avsEq avEq akind teq vkind vEq

end Go.Proofs.Ytkhddecnllcaiaa
end

section
/- Contracts: paths; the statements FeedPaths and OrderPaths. -/
namespace Go.Proofs.Ytkhddecnllcaiaa
open Go.Abs Go
set_option maxRecDepth 20000
set_option maxHeartbeats 2000000
attribute [local irreducible] PreK CondK CallK CallG CallX LoopK
attribute [local simp] avsEq avEq akind teq vkind vEq

theorem CheckPath_c (s : List Rule) (w : List Int) (l : List Step) (h : Sys.small s) (hw : w.length ≤ 1000) (hl : l.length ≤ 1000) :
    CallP Try.prog 30 [rulesV s, ints w, stepsV l] (.tup [ints (CkPath s w l).1, iv (CkPath s w l).2.1, iv (CkPath s w l).2.2]) := by
  refine C30 (by simp) ?_
  have hck := check_c s [w] h (by simp) (by simpa using hw)
  rw [check_one] at hck
  simp [A30]
  refine CallX.pure (CallP.weak (by simpa [weakL, weak] using hck)) (by simp) (by simp) ?_
  try simp 
  refine CondK.intro (fun h1 => ?_) (fun h1 => ?_)
  · simp at h1
    simp [CkPath, h1]
  · simp at h1
    try simp 
    refine CondK.intro (fun h2 => ?_) (fun h2 => ?_)
    · simp at h2
      have h2' : 60 < l.length := by omega
      simp [CkPath, h1, h2']
    · simp at h2
      obtain ⟨hs6, hsr⟩ := sysErr_zero (swErr_zero h1).1
      have hC : CkPath s w l = ckP s l w 0 := by simp [CkPath, h1]; omega
      rw [hC]
      generalize hR : ckP s l w 0 = R
      obtain ⟨R1, R2, R3⟩ := R
      dsimp only
      try simp 
      repeat' (first
        | (refine CallX.pure ((clone_o w hw).toP) (by simp) (by simp) ?_; try simp )
        | (refine CallK.intro ((clone_o w hw).toP) (by simp) (by simp) ?_; try simp )
        | (refine CallG.intro (fun _ => (clone_o w hw).toP) (by simp) (by simp) ?_; try simp )
        | ((with_reducible refine PreK.intro ?_ ?_); (next => (first | omega | (intros; first | omega | (refine ⟨by omega, ?_⟩; repeat (first | assumption | constructor)) | assumption))); intro _; try simp )
        | fail)
      refine LoopK.by (ι := Nat × Word) (fun x => ⟨[(28, iv x.1), (27, iv l.length), (26, stepsV l), (0, rulesV s), (1, ints x.2), (2, stepsV l)], []⟩) (fun x => l.length - x.1)
        (fun x => x.1 ≤ l.length ∧ x.2.length ≤ 1000 ∧ ckP s (l.drop x.1) x.2 x.1 = (R1, R2, R3)) (0, w) ⟨by simp, hw, by simpa using hR⟩ (by simp) ?_
      intro ⟨i, v⟩ Q' ⟨hi, hv, hc⟩ hq he hr
      dsimp only at hi hv hc
      try simp 
      refine CondK.intro (fun h3 => ?_) (fun h3 => ?_)
      · simp at h3
        rw [drop_cons l i h3, ckP] at hc
        repeat (refine PreK.intro (by first | omega | (intros; first | omega | (refine ⟨by omega, ?_⟩; simp_all; done) | (simp_all; done) | (simp_all; omega))) fun _ => ?_; (try simp [h3]))
        try simp [h3]
        repeat' (first
          | (refine CallX.pure (fwithin_c (el l i).rule 0 ((s.length : Int) - 1)) (by simp) (by simp) ?_; try simp [h3])
          | (refine CallK.intro (fwithin_c (el l i).rule 0 ((s.length : Int) - 1)) (by simp) (by simp) ?_; try simp [h3])
          | (refine CallG.intro (fun _ => fwithin_c (el l i).rule 0 ((s.length : Int) - 1)) (by simp) (by simp) ?_; try simp [h3])
          | ((with_reducible refine PreK.intro ?_ ?_); (next => (first | omega | (intros; first | omega | (refine ⟨by omega, ?_⟩; repeat (first | assumption | constructor)) | assumption))); intro _; try simp [h3])
          | fail)
        refine CondK.intro (fun h4 => ?_) (fun h4 => ?_)
        · have h4' : (decide (0 ≤ (el l i).rule) && decide ((el l i).rule ≤ (s.length : Int) - 1)) = false := by
            try simp at h4
            simp only [Bool.and_eq_false_iff, decide_eq_false_iff_not]; omega
          rw [if_pos h4'] at hc
          simp only [Prod.mk.injEq] at hc
          obtain ⟨rfl, rfl, rfl⟩ := hc
          try simp 
          apply hr
          simp
        · have h4' : (decide (0 ≤ (el l i).rule) && decide ((el l i).rule ≤ (s.length : Int) - 1)) = true := by
            try simp at h4
            simp only [Bool.and_eq_true, decide_eq_true_eq]; omega
          rw [if_neg (by rw [h4']; simp)] at hc
          simp only [Bool.and_eq_true, decide_eq_true_eq] at h4'
          have hr0 : 0 ≤ (el l i).rule := h4'.1
          have hr1 : (el l i).rule.toNat < s.length := by omega
          have hac := Apply_c (el s (el l i).rule.toNat) v (el l i).place (h.el hr1) hv
          have hal := applyM_len (el s (el l i).rule.toNat) v (el l i).place
          repeat (refine PreK.intro (by first | omega | (intros; first | omega | (refine ⟨by omega, ?_⟩; simp_all; done) | (simp_all; done) | (simp_all; omega))) fun _ => ?_; (try simp [h3, hr0, hr1]))
          refine CallK.intro (by simpa using hac) (by simp) (by simp) ?_
          try simp [h3, hr0, hr1]
          repeat (refine PreK.intro (by first | omega | (intros; first | omega | (refine ⟨by omega, ?_⟩; simp_all; done) | (simp_all; done) | (simp_all; omega))) fun _ => ?_; (try simp [h3, hr0, hr1]))
          refine CondK.intro (fun h5 => ?_) (fun h5 => ?_)
          · simp at h5
            rw [if_pos (by simpa using h5)] at hc
            simp only [Prod.mk.injEq] at hc
            obtain ⟨rfl, rfl, rfl⟩ := hc
            try simp 
            apply hr
            simp
          · simp at h5
            rw [if_neg (by simpa using h5)] at hc
            repeat (refine PreK.intro (by first | omega | (intros; first | omega | (refine ⟨by omega, ?_⟩; simp_all; done) | (simp_all; done) | (simp_all; omega))) fun _ => ?_; (try simp ))
            exact hq (i + 1, (applyM (el s (el l i).rule.toNat) v (el l i).place).1) _ ⟨by dsimp only; omega, by dsimp only; omega, hc⟩ (by dsimp only; omega) (by simp)
      · simp at h3
        rw [List.drop_eq_nil_of_le (by omega), ckP] at hc
        simp only [Prod.mk.injEq] at hc
        obtain ⟨rfl, rfl, rfl⟩ := hc
        have : i = l.length := by omega
        subst this
        try simp 
        apply he
        try simp 
        repeat' (first
          | ((with_reducible refine PreK.intro ?_ ?_); (next => (first | omega | (intros; first | omega | (refine ⟨by omega, ?_⟩; repeat (first | assumption | constructor)) | assumption))); intro _; try simp )
          | fail)
end Go.Proofs.Ytkhddecnllcaiaa
end

section
/- Contracts: the program's path, the reference's distance; the statement FeedFinds. -/
namespace Go.Proofs.Ytkhddecnllcaiaa
open Go.Abs Go
set_option maxRecDepth 20000
set_option maxHeartbeats 2000000
attribute [local irreducible] PreK CondK CallK CallG CallX LoopK
attribute [local simp] avsEq avEq akind teq vkind vEq

theorem el_rev {α : Type} [Inhabited α] (l : List α) {q : Nat} (h : q < l.length) : el l.reverse q = el l (l.length - 1 - q) := by
  rw [el_eq _ _ (by simpa using h), el_eq _ _ (by omega), List.getElem_reverse]
theorem ext_el {α : Type} [Inhabited α] {a b : List α} (hl : a.length = b.length) (h : ∀ q, q < a.length → el a q = el b q) : a = b := by
  apply List.ext_getElem hl
  intro i h1 h2
  have := h i h1
  rwa [el_eq _ _ h1, el_eq _ _ h2] at this
theorem reverse_L (l : List Step) (hl : l.length ≤ 1000) : CallL Try.prog 70 [] 2 (l.map stepV) [] (.val (.tup [])) (l.reverse.map stepV) := by
  refine CL70 (by simp) ?_
  simp [A70]
  try simp 
  repeat (refine PreK.intro (by first | omega | (intros; first | omega | (refine ⟨by omega, ?_⟩; simp_all; done) | (simp_all; done) | (simp_all; omega))) fun _ => ?_; (try simp ))
  refine LoopK.by (ι := Nat × List Step) (fun x => ⟨[(2, iv x.1), (3, iv ((l.length : Int) - 1 - x.1)), (0, .sl lid 0 0 l.length)], [(lid, some ⟨2, x.2.map stepV, 0, false⟩)]⟩) (fun x => l.length - x.1)
    (fun x => x.1 ≤ l.length ∧ x.2.length = l.length ∧ 2 * x.1 ≤ l.length + 1 ∧ ∀ q, q < l.length → el x.2 q = if q < x.1 ∨ l.length ≤ q + x.1 then el l (l.length - 1 - q) else el l q) (0, l) ⟨by simp, rfl, by simp, fun q hq => by dsimp only; rw [if_neg (by omega)]⟩ (by simp) ?_
  intro ⟨i, c⟩ Q' ⟨hi, hcl, h2i, hce⟩ hq he hr
  dsimp only at hi hcl h2i hce
  try simp 
  refine CondK.intro (fun h1 => ?_) (fun h1 => ?_)
  · simp at h1
    have g1 : i < c.length := by omega
    have g2 : l.length - 1 - i < c.length := by omega
    have e0 : ((l.length : Int) - 1 - i).toNat = l.length - 1 - i := by omega
    have e1 : (0 : Int) ≤ (l.length : Int) - 1 - i := by omega
    have e2 : (l.length : Int) - 1 - i < c.length := by omega
    have g1l : i < l.length := by omega
    have g2l : l.length - 1 - i < l.length := by omega
    have d1 := hce i (by omega)
    have d2 := hce (l.length - 1 - i) (by omega)
    rw [if_neg (by omega)] at d1 d2
    have e3 : nth ((c.map stepV).set i (stepV (el c (l.length - 1 - i)))) (l.length - 1 - i) = stepV (el c (l.length - 1 - i)) := by
      rw [← List.map_set, nth_map _ _ _ (by simpa using g2), el_setG _ _ _ _ g1, if_neg (by omega)]
    simp only [stepV, iv] at e3
    try simp [g1, g2, g1l, g2l, e0, e1, e2, hcl, e3]
    repeat (refine PreK.intro (by first | omega | (intros; first | omega | (refine ⟨by omega, ?_⟩; simp_all; done) | (simp_all; done) | (simp_all; omega))) fun _ => ?_; (try simp [g1, g2, g1l, g2l, e0, e1, e2, hcl, e3]))
    try simp [g1, g2, g1l, g2l, e0, e1, e2, hcl, e3]
    repeat (refine PreK.intro (by first | omega | (intros; first | omega | (refine ⟨by omega, ?_⟩; simp_all; done) | (simp_all; done) | (simp_all; omega))) fun _ => ?_; (try simp [g1, g2, g1l, g2l, e0, e1, e2, hcl, e3]))
    refine hq (i + 1, (c.set i (el c (l.length - 1 - i))).set (l.length - 1 - i) (el c i)) _ ⟨by dsimp only; omega, by simpa using hcl, by dsimp only; omega, fun q hq2 => ?_⟩ (by dsimp only; omega) ?_
    · dsimp only
      rw [el_setG _ _ _ _ (by simpa using g2), el_setG _ _ _ _ g1]
      by_cases h3 : l.length - 1 - i = q
      · rw [if_pos h3, if_pos (by omega), d1]
        congr 1; omega
      · rw [if_neg h3]
        by_cases h4 : i = q
        · rw [if_pos h4, if_pos (by omega), d2]
          congr 1; omega
        · rw [if_neg h4, hce q hq2]
          by_cases h5 : q < i ∨ l.length ≤ q + i
          · rw [if_pos h5, if_pos (by omega)]
          · rw [if_neg h5, if_neg (by omega)]
    · simp [hcl, g1, g2, g1l, g2l, e0, List.map_set]
      omega
  · simp at h1
    have hcr : c = l.reverse := by
      refine ext_el (by simp [hcl]) fun q hq2 => ?_
      rw [hce q (by omega), el_rev l (by omega)]
      split
      · rfl
      · congr 1; omega
    subst hcr
    try simp 
    apply he
    try simp 
    repeat' (first
      | ((with_reducible refine PreK.intro ?_ ?_); (next => (first | omega | (intros; first | omega | (refine ⟨by omega, ?_⟩; repeat (first | assumption | constructor)) | assumption))); intro _; try simp )
      | fail)
theorem checkErr_two {s : List Rule} {w v : List Int} (h : checkErr s [w, v] = 0) : sysErr s = 0 ∧ wordErr w = 0 ∧ wordErr v = 0 := by
  unfold checkErr at h
  by_cases h1 : sysErr s = 0
  · by_cases h2 : wordErr w = 0
    · simp [h1, h2, firstW] at h
      exact ⟨h1, h2, Decidable.byContradiction fun e => e (h e)⟩
    · simp [h1, h2, firstW] at h
  · simp [h1] at h
def PathR (s : List Rule) (w v : Word) : List Step × Bool × Int :=
  if checkErr s [w, v] ≠ 0 then ([], false, checkErr s [w, v]) else match reachG s w with
  | none => ([], false, 3)
  | some g => if v ∈ g.ws then (if 60 < (backM g 301 (findI g.ws v).toNat).length then ([], false, 0) else ((backM g 301 (findI g.ws v).toNat).reverse, true, 0)) else ([], false, 0)
theorem reachG_D {s : List Rule} {w : Word} {g : Gr} (e : reachG s w = some g) : ∃ ws, GrD s g ws ∧ Closed (nxP s) w ws := by
  have h := reachG_F s w
  rw [e] at h
  cases hc : closeM (nxP s) w with
  | none => rw [hc] at h; exact h.elim
  | some ws => rw [hc] at h; exact ⟨ws, h, closeM_some hc⟩
theorem nodup_at {l : List Word} (h : l.Nodup) {i j : Nat} (hi : i < l.length) (hj : j < l.length) (e : el l i = el l j) : i = j := by
  rw [el_eq _ _ hi, el_eq _ _ hj] at e
  have hn := List.pairwise_iff_getElem.1 h
  apply Classical.byContradiction
  intro hne
  rcases Nat.lt_or_gt_of_ne hne with hlt | hgt
  · exact hn i j hi hj hlt e
  · exact hn j i hj hi hgt e.symm
theorem Path_c (s : List Rule) (w v : List Int) (h : Sys.small s) (hw : w.length ≤ 1000) (hv : v.length ≤ 1000) :
    CallP Try.prog 29 [rulesV s, ints w, ints v] (.tup [stepsV (PathR s w v).1, bv (PathR s w v).2.1, iv (PathR s w v).2.2]) := by
  refine C29 (by simp) ?_
  have hck := check_c s [w, v] h (by simp) (by intro x hx; simp at hx; rcases hx with rfl | rfl <;> assumption)
  simp [A29]
  refine CallX.pure (CallP.weak (by simpa [weakL, weak] using hck)) (by simp) (by simp) ?_
  try simp 
  refine CondK.intro (fun h1 => ?_) (fun h1 => ?_)
  · simp at h1
    simp [PathR, h1]
  · simp at h1
    obtain ⟨z1, z2, z3⟩ := checkErr_two h1
    have hrc := reach_c s w h z1 z2
    have hkc := key_c v (by have := (wordErr_zero z3).1; omega) (fine_of z3)
    cases hg : reachG s w with
    | none =>
      rw [hg] at hrc
      have e2 : PathR s w v = ([], false, 3) := by simp [PathR, h1, hg]
      rw [e2]
      simp only [reachV] at hrc
      try simp 
      repeat' (first
        | (refine CallX.pure (hrc) (by simp) (by simp) ?_; try simp )
        | (refine CallK.intro (hrc) (by simp) (by simp) ?_; try simp )
        | (refine CallG.intro (fun _ => hrc) (by simp) (by simp) ?_; try simp )
        | ((with_reducible refine PreK.intro ?_ ?_); (next => (first | omega | (intros; first | omega | (refine ⟨by omega, ?_⟩; repeat (first | assumption | constructor)) | assumption))); intro _; try simp )
        | fail)
      refine CondK.intro (fun h2 => ?_) (fun h2 => ?_)
      · try simp 
        repeat' (first
          | ((with_reducible refine PreK.intro ?_ ?_); (next => (first | omega | (intros; first | omega | (refine ⟨by omega, ?_⟩; repeat (first | assumption | constructor)) | assumption))); intro _; try simp )
          | fail)
      · simp at h2
    | some g =>
      rw [hg] at hrc
      have hok := reachG_ok (by unfold swErr; rw [if_neg (by simp [z1])]; exact z2) hg
      obtain ⟨ws, hD, hC⟩ := reachG_D hg
      have hnum := hok.num
      have hfl := hok.frm
      have hsl := hok.stp
      have hwl : ws.length = g.ws.length := by rw [hD.words]; simp
      simp only [reachV, graphV] at hrc
      try simp 
      repeat' (first
        | (refine CallX.pure (hrc) (by simp) (by simp) ?_; try simp )
        | (refine CallK.intro (hrc) (by simp) (by simp) ?_; try simp )
        | (refine CallG.intro (fun _ => hrc) (by simp) (by simp) ?_; try simp )
        | ((with_reducible refine PreK.intro ?_ ?_); (next => (first | omega | (intros; first | omega | (refine ⟨by omega, ?_⟩; repeat (first | assumption | constructor)) | assumption))); intro _; try simp )
        | fail)
      refine CondK.intro (fun h2 => ?_) (fun h2 => ?_)
      · simp at h2
      · try simp 
        repeat (refine PreK.intro (by first | omega | (intros; first | omega | (refine ⟨by omega, ?_⟩; simp_all; done) | (simp_all; done) | (simp_all; omega))) fun _ => ?_; (try simp ))
        by_cases hmem : v ∈ g.ws
        · obtain ⟨q, q1, q2, q3⟩ := mfind_some (k := 0) (j := 0) (fun x hx => fine_of (hok.fine x hx)) hmem
          obtain ⟨q', p1, p2, p3⟩ := findI_spec hmem
          have hqq : q' = q := by
            refine nodup_at ?_ p1 q1 (by rw [p3, q2])
            rw [hD.words]; exact hC.nodup
          subst hqq
          have hPR : PathR s w v = if 60 < (backM g 301 q').length then ([], false, 0) else ((backM g 301 q').reverse, true, 0) := by simp [PathR, h1, hg, hmem, p2]
          rw [hPR]
          have hBl : (backM g 301 q').length = (el ws q').2 := (backM_path hD hC.first 301 q' (by omega) (by omega)).1
          generalize hB : backM g 301 q' = B
          refine CallK.intro (by simpa using hkc) (by simp) (by simp) ?_
          try simp [q3, keysOK_ents]
          try simp [q3, keysOK_ents]
          repeat (refine PreK.intro (by first | omega | (intros; first | omega | (refine ⟨by omega, ?_⟩; simp_all; done) | (simp_all; done) | (simp_all; omega))) fun _ => ?_; (try simp [q3, keysOK_ents]))
          refine CondK.intro (fun h3 => ?_) (fun h3 => ?_)
          · simp at h3
          · try simp 
            refine LoopK.by (ι := Nat × List Step) (fun x => ⟨[(10, .ipt (graphV s g) 0), (12, iv x.1), (14, .sl 14 (x.2.length + 1) 0 x.2.length)], [(14, some ⟨2, x.2.map stepV, x.2.length + 1, false⟩)]⟩) (fun x => x.1)
              (fun x => x.1 < g.ws.length ∧ x.2.length + x.1 ≤ 300 ∧ x.2 ++ backM g 301 x.1 = B) (q', []) ⟨by dsimp only; omega, by simp; omega, by simpa using hB⟩ (by simp [graphV]) ?_
            intro ⟨i, acc⟩ Q' ⟨hi, hal, hc⟩ hq he hr
            dsimp only at hi hal hc
            simp only [graphV]
            have hif : i < g.frm.length := by omega
            have his : i < g.stp.length := by omega
            rw [backM] at hc
            try simp [hif, his]
            repeat (refine PreK.intro (by first | omega | (intros; first | omega | (refine ⟨by omega, ?_⟩; simp_all; done) | (simp_all; done) | (simp_all; omega))) fun _ => ?_; (try simp [hif, his]))
            refine CondK.intro (fun h4 => ?_) (fun h4 => ?_)
            · simp [hif] at h4
              rw [if_neg (by omega)] at hc
              have hi0 : i ≠ 0 := by
                intro e
                rw [e, hD.root (by omega)] at h4; omega
              obtain ⟨k, k1, k2, k3, k4⟩ := hD.back i (by omega) (by omega)
              have hkk : backM g 300 k = backM g 301 k := backM_more g hD 300 301 k (by omega) (by omega) (by omega)
              rw [k1, Int.toNat_natCast, hkk] at hc
              try simp [hif, his, k1]
              repeat (refine PreK.intro (by first | omega | (intros; first | omega | (refine ⟨by omega, ?_⟩; simp_all; done) | (simp_all; done) | (simp_all; omega))) fun _ => ?_; (try simp [hif, his, k1]))
              refine hq (k, acc ++ [el g.stp i]) _ ⟨by dsimp only; omega, by simp; omega, by simpa using hc⟩ (by dsimp only; omega) (by simp [graphV, hif, k1])
            · simp [hif] at h4
              rw [if_pos (by omega)] at hc
              simp only [List.append_nil] at hc
              subst hc
              try simp 
              apply he
              try simp 
              repeat' (first
                | ((with_reducible refine PreK.intro ?_ ?_); (next => (first | omega | (intros; first | omega | (refine ⟨by omega, ?_⟩; repeat (first | assumption | constructor)) | assumption))); intro _; try simp )
                | fail)
              refine CondK.intro (fun h5 => ?_) (fun h5 => ?_)
              · simp at h5
                have h5' : 60 < acc.length := by omega
                simp [h5']
              · simp at h5
                have hrv := reverse_L acc (by omega)
                rw [if_neg (by omega)]
                try simp 
                refine CallX.lend [] (id := 14) (ver := acc.length + 1) (n := acc.length) (b := ⟨2, acc.map stepV, acc.length + 1, false⟩) [] (.val (.tup [])) _ (by simp) (by simp) (by simp) (by simp) (by simp) (by simp) (by simp) (by simpa using hrv) ?_
                try simp 
                exact List.take_of_length_le (by simp)
        · have q3 := mfind_none (k := 0) (j := 0) (fun x hx => fine_of (hok.fine x hx)) (fine_of z3) hmem
          have hPR : PathR s w v = ([], false, 0) := by simp [PathR, h1, hg, hmem]
          rw [hPR]
          refine CallK.intro (by simpa using hkc) (by simp) (by simp) ?_
          try simp [q3, keysOK_ents]
          try simp [q3, keysOK_ents]
          repeat (refine PreK.intro (by first | omega | (intros; first | omega | (refine ⟨by omega, ?_⟩; simp_all; done) | (simp_all; done) | (simp_all; omega))) fun _ => ?_; (try simp [q3, keysOK_ents]))
          refine CondK.intro (fun h3 => ?_) (fun h3 => ?_)
          · try simp 
            repeat' (first
              | ((with_reducible refine PreK.intro ?_ ?_); (next => (first | omega | (intros; first | omega | (refine ⟨by omega, ?_⟩; repeat (first | assumption | constructor)) | assumption))); intro _; try simp )
              | fail)
          · simp at h3
end Go.Proofs.Ytkhddecnllcaiaa
end

section
/- Contracts: whether two words reach a common one, by both ways; the statement FeedJoins. -/
namespace Go.Proofs.Ytkhddecnllcaiaa
open Go.Abs Go
set_option maxRecDepth 20000
set_option maxHeartbeats 2000000
attribute [local irreducible] PreK CondK CallK CallG CallX LoopK
attribute [local simp] avsEq avEq akind teq vkind vEq

def meetB (a b : List Word) : Bool := a.any fun x => decide (x ∈ b)
def JoinR (s : List Rule) (u v : Word) : Bool × Int :=
  if checkErr s [u, v] ≠ 0 then (false, checkErr s [u, v]) else match reachG s u with
  | none => (false, 3)
  | some a => match reachG s v with
    | none => (false, 3)
    | some b => (meetB a.ws b.ws, 0)
theorem Join_c (s : List Rule) (u v : List Int) (h : Sys.small s) (hu : u.length ≤ 1000) (hv : v.length ≤ 1000) :
    CallP Try.prog 31 [rulesV s, ints u, ints v] (.tup [bv (JoinR s u v).1, iv (JoinR s u v).2]) := by
  refine C31 (by simp) ?_
  have hck := check_c s [u, v] h (by simp) (by intro x hx; simp at hx; rcases hx with rfl | rfl <;> assumption)
  simp [A31]
  refine CallX.pure (CallP.weak (by simpa [weakL, weak] using hck)) (by simp) (by simp) ?_
  try simp 
  refine CondK.intro (fun h1 => ?_) (fun h1 => ?_)
  · simp at h1
    simp [JoinR, h1]
  · simp at h1
    obtain ⟨z1, z2, z3⟩ := checkErr_two h1
    have hrc := reach_c s u h z1 z2
    have hrd := reach_c s v h z1 z3
    have s1 : swErr s u = 0 := by unfold swErr; rw [if_neg (by simp [z1])]; exact z2
    have s2 : swErr s v = 0 := by unfold swErr; rw [if_neg (by simp [z1])]; exact z3
    cases hg : reachG s u with
    | none =>
      rw [hg] at hrc
      have e2 : JoinR s u v = (false, 3) := by simp [JoinR, h1, hg]
      rw [e2]
      simp only [reachV] at hrc
      try simp 
      repeat' (first
        | (refine CallX.pure (hrc) (by simp) (by simp) ?_; try simp )
        | (refine CallK.intro (hrc) (by simp) (by simp) ?_; try simp )
        | (refine CallG.intro (fun _ => hrc) (by simp) (by simp) ?_; try simp )
        | ((with_reducible refine PreK.intro ?_ ?_); (next => (first | omega | (intros; first | omega | (refine ⟨by omega, ?_⟩; repeat (first | assumption | constructor)) | assumption))); intro _; try simp )
        | fail)
      refine CondK.intro (fun h2 => ?_) (fun h2 => ?_)
      · try simp 
        repeat' (first
          | ((with_reducible refine PreK.intro ?_ ?_); (next => (first | omega | (intros; first | omega | (refine ⟨by omega, ?_⟩; repeat (first | assumption | constructor)) | assumption))); intro _; try simp )
          | fail)
      · simp at h2
    | some a =>
      rw [hg] at hrc
      simp only [reachV] at hrc
      cases hg2 : reachG s v with
      | none =>
        rw [hg2] at hrd
        have e2 : JoinR s u v = (false, 3) := by simp [JoinR, h1, hg, hg2]
        rw [e2]
        simp only [reachV] at hrd
        simp only [graphV] at hrc
        try simp 
        repeat' (first
          | (refine CallX.pure (hrc) (by simp) (by simp) ?_; try simp )
          | (refine CallK.intro (hrc) (by simp) (by simp) ?_; try simp )
          | (refine CallG.intro (fun _ => hrc) (by simp) (by simp) ?_; try simp )
          | ((with_reducible refine PreK.intro ?_ ?_); (next => (first | omega | (intros; first | omega | (refine ⟨by omega, ?_⟩; repeat (first | assumption | constructor)) | assumption))); intro _; try simp )
          | fail)
        refine CondK.intro (fun h2 => ?_) (fun h2 => ?_)
        · simp at h2
        · try simp 
          repeat' (first
            | (refine CallX.pure (hrd) (by simp) (by simp) ?_; try simp )
            | (refine CallK.intro (hrd) (by simp) (by simp) ?_; try simp )
            | (refine CallG.intro (fun _ => hrd) (by simp) (by simp) ?_; try simp )
            | ((with_reducible refine PreK.intro ?_ ?_); (next => (first | omega | (intros; first | omega | (refine ⟨by omega, ?_⟩; repeat (first | assumption | constructor)) | assumption))); intro _; try simp )
            | fail)
          refine CondK.intro (fun h3 => ?_) (fun h3 => ?_)
          · try simp 
            repeat' (first
              | ((with_reducible refine PreK.intro ?_ ?_); (next => (first | omega | (intros; first | omega | (refine ⟨by omega, ?_⟩; repeat (first | assumption | constructor)) | assumption))); intro _; try simp )
              | fail)
          · simp at h3
      | some b =>
        rw [hg2] at hrd
        have e2 : JoinR s u v = (meetB a.ws b.ws, 0) := by simp [JoinR, h1, hg, hg2]
        rw [e2]
        have hmc := meet_c s a b (reachG_ok s1 hg) (reachG_ok s2 hg2)
        simp only [reachV] at hrd
        simp only [graphV] at hrc hrd hmc
        try simp 
        repeat' (first
          | (refine CallX.pure (hrc) (by simp) (by simp) ?_; try simp )
          | (refine CallK.intro (hrc) (by simp) (by simp) ?_; try simp )
          | (refine CallG.intro (fun _ => hrc) (by simp) (by simp) ?_; try simp )
          | ((with_reducible refine PreK.intro ?_ ?_); (next => (first | omega | (intros; first | omega | (refine ⟨by omega, ?_⟩; repeat (first | assumption | constructor)) | assumption))); intro _; try simp )
          | fail)
        refine CondK.intro (fun h2 => ?_) (fun h2 => ?_)
        · simp at h2
        · try simp 
          repeat' (first
            | (refine CallX.pure (hrd) (by simp) (by simp) ?_; try simp )
            | (refine CallK.intro (hrd) (by simp) (by simp) ?_; try simp )
            | (refine CallG.intro (fun _ => hrd) (by simp) (by simp) ?_; try simp )
            | ((with_reducible refine PreK.intro ?_ ?_); (next => (first | omega | (intros; first | omega | (refine ⟨by omega, ?_⟩; repeat (first | assumption | constructor)) | assumption))); intro _; try simp )
            | fail)
          refine CondK.intro (fun h3 => ?_) (fun h3 => ?_)
          · simp at h3
          · try simp 
            repeat' (first
              | (refine CallX.pure (hmc) (by simp) (by simp) ?_; try simp )
              | (refine CallK.intro (hmc) (by simp) (by simp) ?_; try simp )
              | (refine CallG.intro (fun _ => hmc) (by simp) (by simp) ?_; try simp )
              | ((with_reducible refine PreK.intro ?_ ?_); (next => (first | omega | (intros; first | omega | (refine ⟨by omega, ?_⟩; repeat (first | assumption | constructor)) | assumption))); intro _; try simp )
              | fail)
            simp [meetB]
end Go.Proofs.Ytkhddecnllcaiaa
end

section
/- Contracts: rules that are not used; a system without a rule; the statement FeedUnused. -/
namespace Go.Proofs.Ytkhddecnllcaiaa
open Go.Abs Go
set_option maxRecDepth 20000
set_option maxHeartbeats 2000000
attribute [local irreducible] PreK CondK CallK CallG CallX LoopK
attribute [local simp] avsEq avEq akind teq vkind vEq

def WithoutR (s : List Rule) (k : Int) : List Rule × Int := if sysErr s ≠ 0 then ([], sysErr s) else if (decide (0 ≤ k) && decide (k ≤ (s.length : Int) - 1)) = false then ([], 4) else (s.eraseIdx k.toNat, 0)
def dropF (k : Nat) : Nat → List Rule → List Rule
  | _, [] => []
  | i, r :: l => if i = k then dropF k (i + 1) l else r :: dropF k (i + 1) l
theorem dropF_all (k : Nat) : ∀ (l : List Rule) (i : Nat), k < i → dropF k i l = l
  | [], i, _ => rfl
  | r :: l, i, h => by rw [dropF, if_neg (by omega), dropF_all k l (i + 1) (by omega)]
theorem dropF_erase : ∀ (l : List Rule) (i j : Nat), dropF (i + j) i l = l.eraseIdx j
  | [], i, j => by simp [dropF]
  | r :: l, i, 0 => by rw [dropF, if_pos (by omega), dropF_all _ _ _ (by omega)]; rfl
  | r :: l, i, j + 1 => by
    rw [dropF, if_neg (by omega), show i + (j + 1) = (i + 1) + j by omega, dropF_erase l (i + 1) j]
    rfl
theorem Without_c (s : List Rule) (k : Int) (h : Sys.small s) : CallP Try.prog 33 [rulesV s, iv k] (.tup [rulesV (WithoutR s k).1, iv (WithoutR s k).2]) := by
  refine C33 (by simp) ?_
  have hsl := h.1
  simp [A33]
  try simp 
  repeat' (first
    | (refine CallX.pure (Validate_c s h) (by simp) (by simp) ?_; try simp )
    | (refine CallK.intro (Validate_c s h) (by simp) (by simp) ?_; try simp )
    | (refine CallG.intro (fun _ => Validate_c s h) (by simp) (by simp) ?_; try simp )
    | ((with_reducible refine PreK.intro ?_ ?_); (next => (first | omega | (intros; first | omega | (refine ⟨by omega, ?_⟩; repeat (first | assumption | constructor)) | assumption))); intro _; try simp )
    | fail)
  refine CondK.intro (fun h1 => ?_) (fun h1 => ?_)
  · simp at h1
    simp [WithoutR, h1]
  · simp at h1
    try simp 
    repeat' (first
      | (refine CallX.pure (fwithin_c k 0 ((s.length : Int) - 1)) (by simp) (by simp) ?_; try simp )
      | (refine CallK.intro (fwithin_c k 0 ((s.length : Int) - 1)) (by simp) (by simp) ?_; try simp )
      | (refine CallG.intro (fun _ => fwithin_c k 0 ((s.length : Int) - 1)) (by simp) (by simp) ?_; try simp )
      | ((with_reducible refine PreK.intro ?_ ?_); (next => (first | omega | (intros; first | omega | (refine ⟨by omega, ?_⟩; repeat (first | assumption | constructor)) | assumption))); intro _; try simp )
      | fail)
    refine CondK.intro (fun h2 => ?_) (fun h2 => ?_)
    · have h2' : (decide (0 ≤ k) && decide (k ≤ (s.length : Int) - 1)) = false := by
        try simp at h2
        simp only [Bool.and_eq_false_iff, decide_eq_false_iff_not]; omega
      have e : WithoutR s k = ([], 4) := by unfold WithoutR; rw [if_neg (by simp [h1]), if_pos h2']
      rw [e]
      try simp 
    · have h2' : (decide (0 ≤ k) && decide (k ≤ (s.length : Int) - 1)) = true := by
        try simp at h2
        simp only [Bool.and_eq_true, decide_eq_true_eq]; omega
      have e : WithoutR s k = (s.eraseIdx k.toNat, 0) := by unfold WithoutR; rw [if_neg (by simp [h1]), if_neg (by rw [h2']; simp)]
      rw [e]
      simp only [Bool.and_eq_true, decide_eq_true_eq] at h2'
      obtain ⟨n, rfl⟩ : ∃ n : Nat, k = (n : Int) := ⟨k.toNat, by omega⟩
      have hE := dropF_erase s 0 n
      simp only [Nat.zero_add] at hE
      rw [Int.toNat_natCast, ← hE]
      generalize hR : dropF n 0 s = R
      try simp 
      refine LoopK.by (ι := Nat × Nat × List Rule) (fun x => ⟨[(23, iv x.1), (22, iv s.length), (21, rulesV s), (1, iv n), (7, .sl 7 x.2.1 0 x.2.2.length)], [(7, some ⟨4, x.2.2.map ruleV, x.2.1, false⟩)]⟩) (fun x => s.length - x.1)
        (fun x => x.1 ≤ s.length ∧ x.2.2.length ≤ x.1 ∧ x.2.2 ++ dropF n x.1 (s.drop x.1) = R) (0, 1, []) ⟨by simp, by simp, by simpa using hR⟩ (by simp) ?_
      intro ⟨i, v, acc⟩ Q' ⟨hi, hal, hc⟩ hq he hr
      dsimp only at hi hal hc
      try simp 
      refine CondK.intro (fun h3 => ?_) (fun h3 => ?_)
      · simp at h3
        obtain ⟨k1, k2, k3⟩ := h.el h3
        rw [drop_cons s i h3, dropF] at hc
        repeat (refine PreK.intro (by first | omega | (intros; first | omega | (refine ⟨by omega, ?_⟩; simp_all; done) | (simp_all; done) | (simp_all; omega))) fun _ => ?_; (try simp [h3]))
        refine CondK.intro (fun h4 => ?_) (fun h4 => ?_)
        · simp at h4
          rw [if_neg (by omega)] at hc
          try simp [h3]
          repeat (refine PreK.intro (by first | omega | (intros; first | omega | (refine ⟨by omega, ?_⟩; simp_all; done) | (simp_all; done) | (simp_all; omega))) fun _ => ?_; (try simp [h3]))
          refine CallK.intro (by simpa using (clone_o (el s i).to k1).toP) (by simp) (by simp) ?_
          try simp [h3]
          repeat (refine PreK.intro (by first | omega | (intros; first | omega | (refine ⟨by omega, ?_⟩; simp_all; done) | (simp_all; done) | (simp_all; omega))) fun _ => ?_; (try simp ))
          refine CallK.intro (by simpa using (clone_o (el s i).left k2).toP) (by simp) (by simp) ?_
          try simp [h3]
          repeat (refine PreK.intro (by first | omega | (intros; first | omega | (refine ⟨by omega, ?_⟩; simp_all; done) | (simp_all; done) | (simp_all; omega))) fun _ => ?_; (try simp ))
          refine CallK.intro (by simpa using (clone_o (el s i).right k3).toP) (by simp) (by simp) ?_
          try simp [h3]
          repeat (refine PreK.intro (by first | omega | (intros; first | omega | (refine ⟨by omega, ?_⟩; simp_all; done) | (simp_all; done) | (simp_all; omega))) fun _ => ?_; (try simp ))
          exact hq (i + 1, v + 1, acc ++ [el s i]) _ ⟨by dsimp only; omega, by simp; omega, by simpa using hc⟩ (by dsimp only; omega) (by simp)
        · simp at h4
          rw [if_pos (by omega)] at hc
          repeat (refine PreK.intro (by first | omega | (intros; first | omega | (refine ⟨by omega, ?_⟩; simp_all; done) | (simp_all; done) | (simp_all; omega))) fun _ => ?_; (try simp ))
          exact hq (i + 1, v, acc) _ ⟨by dsimp only; omega, by dsimp only; omega, hc⟩ (by dsimp only; omega) (by simp)
      · simp at h3
        rw [List.drop_eq_nil_of_le (by omega), dropF] at hc
        simp only [List.append_nil] at hc
        subst hc
        try simp 
        apply he
        try simp 
        repeat' (first
          | ((with_reducible refine PreK.intro ?_ ?_); (next => (first | omega | (intros; first | omega | (refine ⟨by omega, ?_⟩; repeat (first | assumption | constructor)) | assumption))); intro _; try simp )
          | fail)
/-- The numbers of the rules that are in no step. -/
def unusedM (s : List Rule) (ws : List Word) : List Int := ((List.range s.length).filter fun k => !ws.any (hasRule s k)).map fun k : Nat => (k : Int)
def UnusedR (s : List Rule) (w : Word) : List Int × Int := if swErr s w ≠ 0 then ([], swErr s w) else match reachG s w with
  | none => ([], 3)
  | some g => (unusedM s g.ws, 0)
def outU (c : List Bool) : Nat → List Bool → List Int
  | _, [] => []
  | k, b :: l => if b then outU c (k + 1) l else (k : Int) :: outU c (k + 1) l
theorem moves_rule {s : List Rule} {u : Word} {m : Move} (h : m ∈ movesM s u) : ∃ k : Nat, k < s.length ∧ m.step.rule = (k : Int) := by
  obtain ⟨i, h1, h2, _⟩ := movesF_mem s 0 m h
  exact ⟨i, h1, by rw [h2]; congr 1; omega⟩
/-- What is noted of the rules. -/
structure UsedC (s : List Rule) (f : Nat → Bool) (c : List Bool) : Prop where
  len : c.length = s.length
  at' : ∀ k, k < s.length → el c k = f k
theorem UsedC.set {s : List Rule} {f : Nat → Bool} {c : List Bool} (h : UsedC s f c) {q : Nat} (hq : q < s.length) : UsedC s (fun k => f k || decide ((q : Int) = (k : Int))) (c.set q true) := by
  refine ⟨by simpa using h.len, fun k hk => ?_⟩
  rw [el_setG _ _ _ _ (by rw [h.len]; exact hq), h.at' k hk]
  by_cases e : q = k
  · subst e; simp
  · rw [if_neg e]
    have : ¬ ((q : Int) = (k : Int)) := by omega
    simp [this]
theorem outU_range (s : List Rule) (f : Nat → Bool) (c : List Bool) (h : UsedC s f c) : ∀ (n i : Nat), i + n = s.length → outU c i (c.drop i) = ((List.range' i n).filter fun k => !f k).map fun k : Nat => (k : Int)
  | 0, i, hn => by
    rw [List.drop_eq_nil_of_le (by have := h.len; omega)]; rfl
  | n + 1, i, hn => by
    have hi : i < c.length := by rw [h.len]; omega
    rw [drop_cons c i hi, outU, outU_range s f c h n (i + 1) (by omega), h.at' i (by omega), List.range'_succ]
    cases hf : f i <;> simp [hf]
theorem outU_all {s : List Rule} {ws : List Word} {c : List Bool} (h : UsedC s (fun k => ws.any (hasRule s k)) c) : outU c 0 c = unusedM s ws := by
  have := outU_range s _ c h s.length 0 (by omega)
  rw [List.drop_zero, ← List.range_eq_range'] at this
  exact this
theorem UsedC.congr {s : List Rule} {f f' : Nat → Bool} {c : List Bool} (h : UsedC s f c) (e : ∀ k, f k = f' k) : UsedC s f' c := ⟨h.len, fun k hk => by rw [h.at' k hk, e]⟩
theorem UsedC.start (s : List Rule) : UsedC s (fun _ => false) (List.replicate s.length false) := by
  refine ⟨by simp, fun k hk => ?_⟩
  rw [el_eq _ _ (by simpa using hk)]; simp

theorem Unused_c (s : List Rule) (w : List Int) (h : Sys.small s) (hw : w.length ≤ 1000) : CallP Try.prog 32 [rulesV s, ints w] (.tup [ints (UnusedR s w).1, iv (UnusedR s w).2]) := by
  refine C32 (by simp) ?_
  have hrc := reached_c s w h hw
  by_cases h1 : swErr s w = 0
  · have e1 : reachedV s w = reachV s (reachG s w) := by simp [reachedV, h1]
    rw [e1] at hrc
    obtain ⟨hs0, hw0⟩ := swErr_zero h1
    obtain ⟨hs6, _⟩ := sysErr_zero hs0
    cases hg : reachG s w with
    | none =>
      rw [hg] at hrc
      have e2 : UnusedR s w = ([], 3) := by simp [UnusedR, h1, hg]
      rw [e2]
      simp only [reachV] at hrc
      simp [A32]
      try simp 
      repeat' (first
        | (refine CallX.pure (hrc) (by simp) (by simp) ?_; try simp )
        | (refine CallK.intro (hrc) (by simp) (by simp) ?_; try simp )
        | (refine CallG.intro (fun _ => hrc) (by simp) (by simp) ?_; try simp )
        | ((with_reducible refine PreK.intro ?_ ?_); (next => (first | omega | (intros; first | omega | (refine ⟨by omega, ?_⟩; repeat (first | assumption | constructor)) | assumption))); intro _; try simp )
        | fail)
      refine CondK.intro (fun h2 => ?_) (fun h2 => ?_)
      · try simp 
        repeat' (first
          | ((with_reducible refine PreK.intro ?_ ?_); (next => (first | omega | (intros; first | omega | (refine ⟨by omega, ?_⟩; repeat (first | assumption | constructor)) | assumption))); intro _; try simp )
          | fail)
      · simp at h2
    | some g =>
      rw [hg] at hrc
      have hok := reachG_ok h1 hg
      have hnum := hok.num
      have e2 : UnusedR s w = (unusedM s g.ws, 0) := by simp [UnusedR, h1, hg]
      rw [e2]
      generalize hR0 : unusedM s g.ws = R
      simp only [reachV, graphV] at hrc
      simp [A32]
      try simp 
      repeat' (first
        | (refine CallX.pure (hrc) (by simp) (by simp) ?_; try simp )
        | (refine CallK.intro (hrc) (by simp) (by simp) ?_; try simp )
        | (refine CallG.intro (fun _ => hrc) (by simp) (by simp) ?_; try simp )
        | ((with_reducible refine PreK.intro ?_ ?_); (next => (first | omega | (intros; first | omega | (refine ⟨by omega, ?_⟩; repeat (first | assumption | constructor)) | assumption))); intro _; try simp )
        | fail)
      refine CondK.intro (fun h2 => ?_) (fun h2 => ?_)
      · simp at h2
      · repeat (refine PreK.intro (by first | omega | (intros; first | omega | (refine ⟨by omega, ?_⟩; simp_all; done) | (simp_all; done) | (simp_all; omega))) fun _ => ?_; (try simp ))
        refine LoopK.by (ι := Nat × List Bool) (fun x => ⟨[(33, iv x.1), (32, iv g.ws.length), (31, wordsV g.ws), (8, .sl 27 1 0 s.length), (0, rulesV s)], [(27, some ⟨1, x.2.map bv, 1, false⟩)]⟩) (fun x => g.ws.length - x.1)
          (fun x => x.1 ≤ g.ws.length ∧ UsedC s (fun k => (g.ws.take x.1).any (hasRule s k)) x.2) (0, List.replicate s.length false) ⟨by simp, (UsedC.start s).congr fun k => by simp⟩ (by simp) ?_
        intro ⟨i, c⟩ Q' ⟨hi, hc⟩ hq he hr
        dsimp only at hi hc
        have hcl := hc.len
        try simp 
        refine CondK.intro (fun h3 => ?_) (fun h3 => ?_)
        · simp at h3
          have hu := hok.fine _ (el_mem_of g.ws i h3)
          have hmc := moves_c s (el g.ws i) h hs0 hu
          have hrl := fun m hm => @moves_rule s (el g.ws i) m hm
          have hml := movesM_len hs0 hu
          have hhr : ∀ k, hasRule s k (el g.ws i) = (movesM s (el g.ws i)).any fun m => decide (m.step.rule = (k : Int)) := fun k => rfl
          generalize movesM s (el g.ws i) = ms at hmc hrl hml hhr
          try simp [h3]
          repeat' (first
            | (refine CallX.pure (hmc) (by simp) (by simp) ?_; try simp [h3])
            | (refine CallK.intro (hmc) (by simp) (by simp) ?_; try simp [h3])
            | (refine CallG.intro (fun _ => hmc) (by simp) (by simp) ?_; try simp [h3])
            | ((with_reducible refine PreK.intro ?_ ?_); (next => (first | omega | (intros; first | omega | (refine ⟨by omega, ?_⟩; repeat (first | assumption | constructor)) | assumption))); intro _; try simp [h3])
            | fail)
          refine LoopK.by (ι := Nat × List Bool) (fun x => ⟨[(41, iv x.1), (40, iv ms.length), (39, movesV ms), (33, iv i), (32, iv g.ws.length), (31, wordsV g.ws), (8, .sl 27 1 0 s.length), (0, rulesV s)], [(27, some ⟨1, x.2.map bv, 1, false⟩)]⟩) (fun x => ms.length - x.1)
            (fun x => x.1 ≤ ms.length ∧ UsedC s (fun k => (g.ws.take i).any (hasRule s k) || (ms.take x.1).any fun m => decide (m.step.rule = (k : Int))) x.2) (0, c) ⟨by simp, hc.congr fun k => by simp⟩ (by simp [hcl]) ?_
          intro ⟨j, d⟩ Q'' ⟨hj, hd⟩ hq' he' hr'
          dsimp only at hj hd
          have hdl := hd.len
          try simp 
          refine CondK.intro (fun h4 => ?_) (fun h4 => ?_)
          · simp at h4
            obtain ⟨k, k1, k2⟩ := hrl _ (el_mem_of ms j h4)
            have k3 : k < d.length := by omega
            have hnb := nth_map bv d k k3
            repeat (refine PreK.intro (by first | omega | (intros; first | omega | (refine ⟨by omega, ?_⟩; simp_all; done) | (simp_all; done) | (simp_all; omega))) fun _ => ?_; (try simp [h4, k2, k1, k3, hdl, hnb]))
            repeat (refine PreK.intro (by first | omega | (intros; first | omega | (refine ⟨by omega, ?_⟩; simp_all; done) | (simp_all; done) | (simp_all; omega))) fun _ => ?_; (try simp [h4, k2, k1, k3, hdl, hnb]))
            refine hq' (j + 1, d.set k true) _ ⟨by dsimp only; omega, (hd.set k1).congr fun q => ?_⟩ (by dsimp only; omega) (by simp [h4, k2, k3, hdl, List.map_set])
            rw [take_succ ms j h4, List.any_append, List.any_cons, List.any_nil, Bool.or_false, k2, Bool.or_assoc]
          · simp at h4
            have hjl : j = ms.length := by omega
            subst hjl
            try simp 
            apply he'
            try simp 
            repeat' (first
              | ((with_reducible refine PreK.intro ?_ ?_); (next => (first | omega | (intros; first | omega | (refine ⟨by omega, ?_⟩; repeat (first | assumption | constructor)) | assumption))); intro _; try simp )
              | fail)
            refine hq (i + 1, d) _ ⟨by dsimp only; omega, hd.congr fun k => ?_⟩ (by dsimp only; omega) (by simp [hdl])
            rw [List.take_length, take_succ g.ws i h3, List.any_append, List.any_cons, List.any_nil, Bool.or_false, hhr]
        · simp at h3
          have hil : i = g.ws.length := by omega
          subst hil
          have hall := outU_all (hc.congr fun k => by rw [List.take_length])
          rw [hR0] at hall
          try simp 
          apply he
          have htk : (c.map bv).take s.length = c.map bv := List.take_of_length_le (by simp [hcl])
          try simp 
          refine LoopK.by (ι := Nat × List Int) (fun x => ⟨[(54, iv x.1), (53, iv s.length), (52, .sl 27 1 0 s.length), (13, .sl 13 (x.2.length + 1) 0 x.2.length)], [(27, some ⟨1, c.map bv, 1, false⟩), (13, some ⟨1, x.2.map iv, x.2.length + 1, false⟩)]⟩) (fun x => s.length - x.1)
            (fun x => x.1 ≤ s.length ∧ x.2.length ≤ x.1 ∧ x.2 ++ outU c x.1 (c.drop x.1) = R) (0, []) ⟨by simp, by simp, by simpa using hall⟩ (by simp) ?_
          intro ⟨i, acc⟩ Q'' ⟨hi, hal, hcc⟩ hq' he' hr'
          dsimp only at hi hal hcc
          try simp 
          refine CondK.intro (fun h5 => ?_) (fun h5 => ?_)
          · simp at h5
            have h5c : i < c.length := by omega
            rw [drop_cons c i h5c, outU] at hcc
            have hnb := nth_map bv c i h5c
            repeat (refine PreK.intro (by first | omega | (intros; first | omega | (refine ⟨by omega, ?_⟩; simp_all; done) | (simp_all; done) | (simp_all; omega))) fun _ => ?_; (try simp [h5, h5c, hcl, hnb]))
            refine CondK.intro (fun h6 => ?_) (fun h6 => ?_)
            · simp [h5, h5c, hcl, hnb] at h6
              rw [h6] at hcc
              simp only [Bool.false_eq_true, if_false] at hcc
              repeat (refine PreK.intro (by first | omega | (intros; first | omega | (refine ⟨by omega, ?_⟩; simp_all; done) | (simp_all; done) | (simp_all; omega))) fun _ => ?_; (try simp ))
              exact hq' (i + 1, acc ++ [(i : Int)]) _ ⟨by dsimp only; omega, by simp; omega, by simpa using hcc⟩ (by dsimp only; omega) (by simp)
            · simp [h5, h5c, hcl, hnb] at h6
              rw [h6] at hcc
              simp only [if_true] at hcc
              repeat (refine PreK.intro (by first | omega | (intros; first | omega | (refine ⟨by omega, ?_⟩; simp_all; done) | (simp_all; done) | (simp_all; omega))) fun _ => ?_; (try simp ))
              exact hq' (i + 1, acc) _ ⟨by dsimp only; omega, by dsimp only; omega, hcc⟩ (by dsimp only; omega) (by simp)
          · simp at h5
            rw [List.drop_eq_nil_of_le (by omega), outU] at hcc
            simp only [List.append_nil] at hcc
            subst hcc
            try simp 
            apply he'
            try simp 
            repeat' (first
              | ((with_reducible refine PreK.intro ?_ ?_); (next => (first | omega | (intros; first | omega | (refine ⟨by omega, ?_⟩; repeat (first | assumption | constructor)) | assumption))); intro _; try simp )
              | fail)
  · have e1 : reachedV s w = .tup [.raw (.pointer none), iv (swErr s w)] := by simp [reachedV, h1]
    rw [e1] at hrc
    have e2 : UnusedR s w = ([], swErr s w) := by simp [UnusedR, h1]
    rw [e2]
    simp [A32]
    try simp 
    repeat' (first
      | (refine CallX.pure (hrc) (by simp) (by simp) ?_; try simp )
      | (refine CallK.intro (hrc) (by simp) (by simp) ?_; try simp )
      | (refine CallG.intro (fun _ => hrc) (by simp) (by simp) ?_; try simp )
      | ((with_reducible refine PreK.intro ?_ ?_); (next => (first | omega | (intros; first | omega | (refine ⟨by omega, ?_⟩; repeat (first | assumption | constructor)) | assumption))); intro _; try simp )
      | fail)
    refine CondK.intro (fun h2 => ?_) (fun h2 => ?_)
    · try simp 
      repeat' (first
        | ((with_reducible refine PreK.intro ?_ ?_); (next => (first | omega | (intros; first | omega | (refine ⟨by omega, ?_⟩; repeat (first | assumption | constructor)) | assumption))); intro _; try simp )
        | fail)
    · simp at h2
      exact absurd h2 h1
end Go.Proofs.Ytkhddecnllcaiaa
end

section
/- Contracts: the reference's unused rules; the statement FeedUnused. -/
namespace Go.Proofs.Ytkhddecnllcaiaa
open Go.Abs Go
attribute [local simp] avsEq avEq akind teq vkind vEq

theorem UnusedR_len {s : List Rule} {w : Word} : (UnusedR s w).1.length ≤ s.length := by
  unfold UnusedR
  split
  · simp
  · split
    · simp
    · dsimp only
      unfold unusedM
      rw [List.length_map]
      exact Nat.le_trans (List.length_filter_le _ _) (by simp)
theorem without_small {s : List Rule} {k : Int} (h : Sys.small s) : Sys.small (WithoutR s k).1 := by
  have : (WithoutR s k).1 = s.eraseIdx k.toNat ∨ (WithoutR s k).1 = [] := by
    unfold WithoutR
    split
    · exact .inr rfl
    · split
      · exact .inr rfl
      · exact .inl rfl
  rcases this with e | e
  · rw [e]
    refine ⟨?_, fun r hr => h.2 r (List.mem_of_mem_eraseIdx hr)⟩
    have := List.length_eraseIdx_le s k.toNat
    have := h.1
    omega
  · rw [e]
    exact ⟨by simp, fun r hr => by cases hr⟩
theorem firstErr_all : ∀ {s : List Rule}, (∀ r ∈ s, ruleErr r = 0) → firstErr s = 0
  | [], _ => rfl
  | r :: s, h => by
    rw [firstErr, if_neg (by simp [h r (by simp)])]
    exact firstErr_all fun x hx => h x (by simp [hx])
theorem sysErr_less {s : List Rule} {k : Nat} (h : sysErr s = 0) : sysErr (s.eraseIdx k) = 0 := by
  obtain ⟨h1, h2⟩ := sysErr_zero h
  unfold sysErr
  have := List.length_eraseIdx_le s k
  rw [if_neg (by omega)]
  exact firstErr_all fun r hr => h2 r (List.mem_of_mem_eraseIdx hr)
theorem unused_law {s : List Rule} {w : Word} {k : Int} (h : (UnusedR s w).2 = 0) (hk : (UnusedR s w).1.contains k = true) :
    (WithoutR s k).2 = 0 ∧ (ReachE s w).2 = 0 ∧ ReachE (WithoutR s k).1 w = ReachE s w := by
  unfold UnusedR at h hk
  by_cases h0 : swErr s w = 0
  · simp only [h0, ne_eq, not_true_eq_false, if_false] at h hk
    cases hg : reachG s w with
    | none => rw [hg] at h; cases h
    | some g =>
      rw [hg] at hk
      dsimp only at hk
      obtain ⟨hs0, hw0⟩ := swErr_zero h0
      have hm : k ∈ unusedM s g.ws := by simpa using hk
      unfold unusedM at hm
      obtain ⟨n, hn, rfl⟩ := List.mem_map.1 hm
      rw [List.mem_filter, List.mem_range] at hn
      obtain ⟨n1, n2⟩ := hn
      have hu : ∀ u ∈ g.ws, hasRule s n u = false := by
        intro u hu
        have : g.ws.any (hasRule s n) = false := by simpa using n2
        rw [List.any_eq_false] at this
        simpa using this u hu
      obtain ⟨g', k1, k2⟩ := unused_same n1 hg hu
      have hW : WithoutR s (n : Int) = (s.eraseIdx n, 0) := by
        unfold WithoutR
        rw [if_neg (by simp [hs0]), if_neg]
        · rfl
        · simp only [Bool.and_eq_false_iff, decide_eq_false_iff_not]; omega
      have h0' : swErr (s.eraseIdx n) w = 0 := by unfold swErr; rw [if_neg (by simp [sysErr_less hs0])]; exact hw0
      rw [hW]
      dsimp only
      unfold ReachE
      simp only [h0, h0', ne_eq, not_true_eq_false, if_false, hg, k1]
      refine ⟨trivial, trivial, ?_⟩
      rw [uniq_insA (l := g'.ws) (m := g.ws) k2, ← uniq_insA (l := g.ws) (m := g.ws) fun z => Iff.rfl]
  · simp only [h0, ne_eq, not_false_eq_true, if_true] at h
end Go.Proofs.Ytkhddecnllcaiaa
end

section
/- Contracts: which weights hold; the statement FeedWeights. -/
namespace Go.Proofs.Ytkhddecnllcaiaa
open Go.Abs Go
set_option maxRecDepth 20000
set_option maxHeartbeats 2000000
attribute [local irreducible] PreK CondK CallK CallG CallX LoopK
attribute [local simp] avsEq avEq akind teq vkind vEq

/-- Whether a rule does not make words lighter. -/
def heavy (o : List Int) (r : Rule) : Bool := decide (r.frm < 0) || decide (el o r.frm.toNat ≤ weighM o r.to)
def CheckW (s : List Rule) (o : List Int) : Int := if sysErr s ≠ 0 then sysErr s else if areW o = false then 1 else if s.any (heavy o) then 7 else 0
theorem CheckWeights_c (s : List Rule) (o : List Int) (hs : Sys.small s) (ho : o.length ≤ big) : CallP Try.prog 26 [rulesV s, ints o] (iv (CheckW s o)) := by
  refine C26 (by simp) ?_
  simp [A26]
  try simp 
  repeat' (first
    | (refine CallX.pure (Validate_c s hs) (by simp) (by simp) ?_; try simp )
    | (refine CallK.intro (Validate_c s hs) (by simp) (by simp) ?_; try simp )
    | (refine CallG.intro (fun _ => Validate_c s hs) (by simp) (by simp) ?_; try simp )
    | ((with_reducible refine PreK.intro ?_ ?_); (next => (first | omega | (intros; first | omega | (refine ⟨by omega, ?_⟩; repeat (first | assumption | constructor)) | assumption))); intro _; try simp )
    | fail)
  refine CondK.intro (fun h1 => ?_) (fun h1 => ?_)
  · simp at h1
    simp [CheckW, h1]
  · simp at h1
    obtain ⟨hs6, hsr⟩ := sysErr_zero h1
    try simp 
    repeat' (first
      | (refine CallX.pure (areWeights_c o ho) (by simp) (by simp) ?_; try simp )
      | (refine CallK.intro (areWeights_c o ho) (by simp) (by simp) ?_; try simp )
      | (refine CallG.intro (fun _ => areWeights_c o ho) (by simp) (by simp) ?_; try simp )
      | ((with_reducible refine PreK.intro ?_ ?_); (next => (first | omega | (intros; first | omega | (refine ⟨by omega, ?_⟩; repeat (first | assumption | constructor)) | assumption))); intro _; try simp )
      | fail)
    refine CondK.intro (fun h2 => ?_) (fun h2 => ?_)
    · simp at h2
      simp [CheckW, h1, h2]
    · simp at h2
      obtain ⟨f1, f2, f3⟩ := areW_facts h2
      have hCW : CheckW s o = if s.any (heavy o) then 7 else 0 := by simp [CheckW, h1, h2]
      rw [hCW]
      generalize hR : s.any (heavy o) = R
      try simp 
      refine LoopK.by (fun i : Nat => ⟨[(18, iv i), (17, iv s.length), (16, rulesV s), (1, ints o)], []⟩) (fun i => s.length - i) (fun i => i ≤ s.length ∧ (s.drop i).any (heavy o) = R) 0 (by simpa using hR) (by simp) ?_
      intro i Q' ⟨hi, hc⟩ hq he hr
      try simp 
      refine CondK.intro (fun h3 => ?_) (fun h3 => ?_)
      · simp at h3
        obtain ⟨r1, r2, r3, r4⟩ := rule_in (hsr (el s i) (el_mem_of s i h3))
        rw [drop_cons s i h3, List.any_cons] at hc
        have hwb := weighM_le f3 (by omega) (el s i).to
        have hwc := weigh_c o (el s i).to f1 (by omega) r4 f2 (by omega)
        have hfl : (el s i).frm.toNat < o.length := by omega
        repeat (refine PreK.intro (by first | omega | (intros; first | omega | (refine ⟨by omega, ?_⟩; simp_all; done) | (simp_all; done) | (simp_all; omega))) fun _ => ?_; (try simp [h3]))
        by_cases h4 : (el s i).frm < 0
        · have hh : heavy o (el s i) = true := by simp [heavy, h4]
          rw [hh] at hc
          repeat (refine PreK.intro (by first | omega | (intros; first | omega | (refine ⟨by omega, ?_⟩; simp_all; done) | (simp_all; done) | (simp_all; omega))) fun _ => ?_; (try simp [h3, h4, hfl]))
          refine CallG.intro (r := iv 0) (fun hc => by simp [h4] at hc) (by simp [h4]) (by simp) ?_
          try simp [h3, h4, hfl]
          repeat (refine PreK.intro (by first | omega | (intros; first | omega | (refine ⟨by omega, ?_⟩; simp_all; done) | (simp_all; done) | (simp_all; omega))) fun _ => ?_; (try simp [h3, h4, hfl]))
          refine CondK.intro (fun h5 => ?_) (fun h5 => ?_)
          · try simp 
            apply hr
            simp [← hc]
          · simp [h4] at h5
        · have hfl : (el s i).frm.toNat < o.length := by omega
          have hf0 : 0 ≤ (el s i).frm := by omega
          have hh : heavy o (el s i) = decide (el o (el s i).frm.toNat ≤ weighM o (el s i).to) := by simp [heavy, h4]
          rw [hh] at hc
          repeat (refine PreK.intro (by first | omega | (intros; first | omega | (refine ⟨by omega, ?_⟩; simp_all; done) | (simp_all; done) | (simp_all; omega))) fun _ => ?_; (try simp [h3, h4, hfl, hf0]))
          refine CallG.intro (r := iv (weighM o (el s i).to)) (fun _ => by simpa using hwc) (by simp) (by simp) ?_
          try simp [h3, h4]
          repeat (refine PreK.intro (by first | omega | (intros; first | omega | (refine ⟨by omega, ?_⟩; simp_all; done) | (simp_all; done) | (simp_all; omega))) fun _ => ?_; (try simp [h3, h4, hfl, hf0]))
          refine CondK.intro (fun h5 => ?_) (fun h5 => ?_)
          · have h5' : decide (el o (el s i).frm.toNat ≤ weighM o (el s i).to) = true := by simpa [h4] using h5
            rw [h5'] at hc
            try simp 
            apply hr
            simp at hc
            simp [← hc]
          · have h5' : decide (el o (el s i).frm.toNat ≤ weighM o (el s i).to) = false := by simpa [h4] using h5
            rw [h5'] at hc
            repeat (refine PreK.intro (by first | omega | (intros; first | omega | (refine ⟨by omega, ?_⟩; simp_all; done) | (simp_all; done) | (simp_all; omega))) fun _ => ?_; (try simp ))
            exact hq (i + 1) _ ⟨by omega, by simpa using hc⟩ (by omega) (by simp)
      · simp at h3
        rw [List.drop_eq_nil_of_le (by omega)] at hc
        simp at hc
        try simp 
        apply he
        simp [← hc]
theorem weights_hold {s : List Rule} (h : (WeightsR s).2.2 = 0) (h2 : (WeightsR s).2.1 = true) : CheckW s (WeightsR s).1 = 0 := by
  obtain ⟨h0, hr⟩ := WeightsR_some h h2
  have hsr := (sysErr_zero h0).2
  obtain ⟨hk, hh⟩ := roundsM_kept (fun r hr => (rule_in (hsr r hr)).2.1) 7 _ _ (kept_zero s) hr
  have hb := weights_bound hk hh (fun r hr => (rule_in (hsr r hr)).2.2.1)
  have hA : areW (WeightsR s).1 = true := by
    unfold areW
    simp only [Bool.and_eq_true, decide_eq_true_eq, Bool.not_eq_true', List.any_eq_false, Bool.not_eq_true, Bool.not_eq_false']
    refine ⟨hk.len, fun x hx => ?_⟩
    obtain ⟨i, hi, rfl⟩ := List.getElem_of_mem hx
    have h1 := hk.pos i
    have h3 := hb i
    rw [el_eq _ i hi] at h1 h3
    simp; omega
  unfold CheckW
  rw [if_neg (by simp [h0]), if_neg (by simp [hA]), if_neg]
  simp only [List.any_eq_true, not_exists, not_and, Bool.not_eq_true]
  intro r hr
  obtain ⟨k1, k2⟩ := hh r hr
  simp only [heavy, Bool.or_eq_false_iff, decide_eq_false_iff_not]
  omega
end Go.Proofs.Ytkhddecnllcaiaa
end

section
/- Contracts: the weight of a word in the document; the statement FeedHolds. -/
namespace Go.Proofs.Ytkhddecnllcaiaa
open Go.Abs Go
attribute [local simp] avsEq avEq akind teq vkind vEq

theorem checkW_zero {s : List Rule} {o : List Int} (h : CheckW s o = 0) : sysErr s = 0 ∧ areW o = true ∧ holdsM s o := by
  unfold CheckW at h
  split at h
  · rename_i h1; exact absurd h h1
  · rename_i h1
    split at h
    · cases h
    · rename_i h2
      split at h
      · cases h
      · rename_i h3
        simp only [ne_eq, Decidable.not_not] at h1
        simp only [Bool.not_eq_false] at h2
        refine ⟨h1, h2, fun r hr => ?_⟩
        simp only [List.any_eq_true, not_exists, not_and, Bool.not_eq_true] at h3
        have := h3 r hr
        simp only [heavy, Bool.or_eq_false_iff, decide_eq_false_iff_not] at this
        omega
/-- The smallest weights are there, and are smaller than any that hold. -/
theorem holds_least {s : List Rule} {o : List Int} (h : CheckW s o = 0) : (WeightsR s).2.2 = 0 ∧ (WeightsR s).2.1 = true ∧ (WeightsR s).1.length = 6 ∧ o.length = 6 ∧ ∀ k, el (WeightsR s).1 k ≤ el o k := by
  obtain ⟨h1, h2, h3⟩ := checkW_zero h
  obtain ⟨f1, f2, f3⟩ := areW_facts h2
  have hv : ∀ r ∈ s, r.frm ≤ 5 := fun r hr => (rule_in ((sysErr_zero h1).2 r hr)).2.1
  obtain ⟨p, h4, h5⟩ := least_weights hv h3 f2 f1
  have hk := (roundsM_kept hv 7 _ _ (kept_zero s) h4).1.len
  have e : WeightsR s = (p, true, 0) := by
    unfold WeightsR
    rw [if_neg (by simp [h1]), h4]
  rw [e]
  exact ⟨rfl, rfl, hk, f1, h5⟩
theorem holds_bound {s : List Rule} {o w : List Int} (h : CheckW s o = 0) (h2 : (WeighR o w).2 = 0) (h3 : (LongestE s w).2.2 = 0) : (LongestE s w).2.1 = true ∧ (LongestE s w).1 ≤ (WeighR o w).1 := by
  obtain ⟨_, k2, k3⟩ := checkW_zero h
  obtain ⟨_, f2, _⟩ := areW_facts k2
  have hb := long_bound k3 f2 (longestE_spec h3)
  refine ⟨hb.1, ?_⟩
  have e : (WeighR o w).1 = weighM o w := by
    unfold WeighR at h2 ⊢
    rw [if_neg (by simp [k2])] at h2 ⊢
    split at h2
    · rename_i h4; exact absurd h2 h4
    · rename_i h4; rw [if_neg h4]
  rw [e]; exact hb.2
end Go.Proofs.Ytkhddecnllcaiaa
end

section
/- Plain: what the statement TopFeeds says of a system, a word and a word that it reaches. -/
namespace Go.Proofs.Ytkhddecnllcaiaa
open Go.Abs Go

/-- All that is asked of a right system and word, where not too much is reached. -/
structure TopF (s : List Rule) (w : Word) : Prop where
  l0 : 0 < (ReachE s w).1.length
  l300 : (ReachE s w).1.length ≤ 300
  e1 : (LongestE s w).2.2 = 0
  e2 : (ForeverE s w).2 = 0
  e3 : (EndsE s w).2 = 0
  e4 : (CalmE s w).2 = 0
  e5 : (OneE s w).2.2 = 0
  fe : (ForeverE s w).1 = !(LongestE s w).2.1
  ends : (ForeverE s w).1 = false → 0 < (EndsE s w).1.length
  short : (LongestE s w).2.1 = true → (LongestE s w).1 < ((ReachE s w).1.length : Int)
  one : (OneE s w).1 = (oneR (LongestE s w).2.1 (EndsE s w).1).1 ∧ (OneE s w).2.1 = (oneR (LongestE s w).2.1 (EndsE s w).1).2
  calm : (CalmE s w).1 = true → (ForeverE s w).1 = false → (OneE s w).2.1 = true
  we : (WeightsR s).2.2 = 0
  wh : (WeightsR s).2.1 = true → (WeighR (WeightsR s).1 w).2 = 0 ∧ (LongestE s w).2.1 = true ∧ (LongestE s w).1 ≤ (WeighR (WeightsR s).1 w).1 ∧ CheckW s (WeightsR s).1 = 0
  un : (UnusedR s w).2 = 0
theorem topF_of {s : List Rule} {w : Word} (h : (ReachE s w).2 = 0) : TopF s w := by
  have hcl := @calm_law s w
  have hef := @ends_facts s w
  have hall : swErr s w = 0 ∧ ∃ g, reachG s w = some g := by
    unfold ReachE at h
    by_cases h0 : swErr s w = 0
    · refine ⟨h0, ?_⟩
      simp only [h0, ne_eq, not_true_eq_false, if_false] at h
      cases hg : reachG s w with
      | none => rw [hg] at h; cases h
      | some g => exact ⟨g, rfl⟩
    · simp only [h0, ne_eq, not_false_eq_true, if_true] at h
  obtain ⟨h0, g, hg⟩ := hall
  obtain ⟨hs0, hw0⟩ := swErr_zero h0
  have hok := reachG_ok h0 hg
  have hnum := hok.num
  have hR : ReachE s w = (uniq g.ws, 0) := by simp [ReachE, h0, hg]
  have hE : EndsE s w = (uniq (g.ws.filter (isEndM s)), 0) := by simp [EndsE, h0, hg]
  have hC : CalmE s w = (calmB (rowsG s g), 0) := by simp [CalmE, h0, hg]
  have hL : LongestE s w = ((LongestG s g).1, (LongestG s g).2, 0) := by simp [LongestE, h0, hg]
  have hF : ForeverE s w = (!(LongestG s g).2, 0) := by simp [ForeverE, hL]
  have hO : OneE s w = ((oneR (LongestG s g).2 (uniq (g.ws.filter (isEndM s)))).1, (oneR (LongestG s g).2 (uniq (g.ws.filter (isEndM s)))).2, 0) := by simp [OneE, h0, hg]
  have hW : (WeightsR s).2.2 = 0 := by
    unfold WeightsR
    rw [if_neg (by simp [hs0])]
    split <;> rfl
  have hul := uniq_len g.ws
  have hself := ReachE_self h
  rw [hR] at hself
  have hspec := longestG_spec hg hok
  have hc2 := hcl (by rw [hC])
  have he2 := hef (by rw [hE])
  refine ⟨?_, ?_, by rw [hL], by rw [hF], by rw [hE], by rw [hC], by rw [hO], by rw [hF, hL], he2.2.2.2, ?_, by rw [hO, hL, hE]; exact ⟨rfl, rfl⟩, hc2.2.2, hW, fun hh => ?_, ?_⟩
  · rw [hR]; exact List.length_pos_of_mem hself
  · rw [hR]; dsimp only; omega
  · rw [hL, hR]
    dsimp only
    intro hk
    rw [hk] at hspec
    obtain ⟨⟨m, em, x, hx⟩, hmax⟩ := hspec.fin rfl
    rw [em]
    apply Classical.byContradiction
    intro hno
    have hlt : (uniq g.ws).length ≤ m := by omega
    have hev := long_ever (ws := uniq g.ws) (fun n y hy => ((uniq_sorted _).2 y).2 ((closed_mem hg).1 n y hy)) hx hlt
    obtain ⟨y, hy⟩ := hev (m + 1)
    have := hmax _ _ hy
    omega
  · have hck := weights_hold hW hh
    have haw := (checkW_zero hck).2.1
    have hwe : (WeighR (WeightsR s).1 w).2 = 0 := by
      unfold WeighR
      rw [if_neg (by rw [haw]; simp), if_neg (by simp [hw0])]
    obtain ⟨b1, b2⟩ := holds_bound hck hwe (by rw [hL])
    exact ⟨hwe, b1, b2, hck⟩
  · simp [UnusedR, h0, hg]
/-- What is asked of a word that is reached. -/
structure TopV (s : List Rule) (w v : Word) : Prop where
  n0 : (NextE s v).2 = 0
  i0 : (IsEndR s v).2 = 0
  p0 : (PathR s w v).2.2 = 0
  ie : (IsEndR s v).1 = decide ((NextE s v).1.length = 0)
  nx : ∀ x ∈ (NextE s v).1, x ∈ (ReachE s w).1
  plen : (PathR s w v).1.length ≤ 60
  ck : (PathR s w v).2.1 = true → CkPath s w (PathR s w v).1 = (v, ((PathR s w v).1.length : Int), 0)
  jn : JoinR s w v = (true, 0)
  le : (PathR s w v).2.1 = true → (LongestE s w).2.1 = true → ((PathR s w v).1.length : Int) ≤ (LongestE s w).1
  v8 : v.length ≤ 8
  xl : (NextE s v).1.length ≤ 54
theorem reach_sub {s : List Rule} {w v : Word} {g : Gr} (hg : reachG s w = some g) (hv : v ∈ g.ws) (hn : g.ws.length ≤ 300) : ∃ g', reachG s v = some g' := by
  obtain ⟨h1, h2⟩ := closed_mem hg
  obtain ⟨n, hr⟩ := h2 v hv
  have h3 := reachG_F s v
  cases hg' : reachG s v with
  | some g' => exact ⟨g', rfl⟩
  | none =>
    exfalso
    rw [hg'] at h3
    cases hc : closeM (nxP s) v with
    | some ws => rw [hc] at h3; exact h3.elim
    | none =>
      obtain ⟨m, m1, m2, m3⟩ := closeM_none hc
      have := nodup_le' m1 (m := g.ws) fun x hx => by
        obtain ⟨k, hk⟩ := m3 x hx
        exact h1 _ x (hr.trans hk)
      omega
theorem path_facts {s : List Rule} {w v : Word} {g : Gr} (h0 : swErr s w = 0) (hv : wordErr v = 0) (hg : reachG s w = some g) :
    (PathR s w v).2.2 = 0 ∧ (PathR s w v).1.length ≤ 60 ∧ ((PathR s w v).2.1 = true → CkPath s w (PathR s w v).1 = (v, ((PathR s w v).1.length : Int), 0) ∧ ReachN (nxP s) w (PathR s w v).1.length v) := by
  obtain ⟨hs0, hw0⟩ := swErr_zero h0
  have h1 : checkErr s [w, v] = 0 := by simp [checkErr, firstW, hs0, hw0, hv]
  obtain ⟨ws, g1, g3⟩ := reachG_D hg
  unfold PathR
  simp only [h1, ne_eq, not_true_eq_false, if_false, hg]
  by_cases hm : v ∈ g.ws
  · rw [if_pos hm]
    obtain ⟨i, i1, i2, i3⟩ := findI_spec hm
    rw [i2, Int.toNat_natCast]
    have li : i < ws.length := by rw [g1.words] at i1; simpa using i1
    have ei : (el ws i).1 = v := by rw [← i3, g1.words, el_mapG _ _ li]
    have hl300 := g3.len
    obtain ⟨b1, b2⟩ := backM_path g1 g3.first 301 i (by omega) li
    by_cases h60 : 60 < (backM g 301 i).length
    · rw [if_pos h60]
      simp
    · rw [if_neg h60]
      refine ⟨rfl, by simp; omega, fun _ => ⟨?_, ?_⟩⟩
      · dsimp only
        have := b2 [] 0
        rw [List.append_nil] at this
        unfold CkPath
        rw [if_neg (by simp [h0]), if_neg (by simp; omega), this, ckP, ei]
        simp [b1]
      · dsimp only
        rw [List.length_reverse, b1, ← ei]
        exact g3.reach _ (by rw [el_eq _ _ li]; exact List.getElem_mem _)
  · rw [if_neg hm]
    simp
theorem uniq_zero {l : List Word} : (uniq l).length = 0 ↔ l.length = 0 := by
  have h := (uniq_sorted l).2
  constructor
  · intro e
    have e2 := List.eq_nil_of_length_eq_zero e
    cases l with
    | nil => rfl
    | cons x l =>
      have := (h x).2 (by simp)
      rw [e2] at this; cases this
  · intro e
    have := List.eq_nil_of_length_eq_zero e
    subst this
    rfl
theorem topV_of {s : List Rule} {w v : Word} (h : (ReachE s w).2 = 0) (hv : v ∈ (ReachE s w).1) : TopV s w v := by
  have hall : swErr s w = 0 ∧ ∃ g, reachG s w = some g := by
    unfold ReachE at h
    by_cases h0 : swErr s w = 0
    · refine ⟨h0, ?_⟩
      simp only [h0, ne_eq, not_true_eq_false, if_false] at h
      cases hg : reachG s w with
      | none => rw [hg] at h; cases h
      | some g => exact ⟨g, rfl⟩
    · simp only [h0, ne_eq, not_false_eq_true, if_true] at h
  obtain ⟨h0, g, hg⟩ := hall
  obtain ⟨hs0, hw0⟩ := swErr_zero h0
  have hok := reachG_ok h0 hg
  have hnum := hok.num
  have hR : ReachE s w = (uniq g.ws, 0) := by simp [ReachE, h0, hg]
  rw [hR] at hv
  have hvg : v ∈ g.ws := ((uniq_sorted _).2 v).1 hv
  have hvw := hok.fine v hvg
  have hsv : swErr s v = 0 := by unfold swErr; rw [if_neg (by simp [hs0])]; exact hvw
  have hN : NextE s v = (NextR s v, 0) := by simp [NextE, hsv]
  have hI : IsEndR s v = (decide ((movesM s v).length = 0), 0) := by simp [IsEndR, hsv]
  have hL : LongestE s w = ((LongestG s g).1, (LongestG s g).2, 0) := by simp [LongestE, h0, hg]
  obtain ⟨p1, p2, p3⟩ := path_facts h0 hvw hg
  have hspec := longestG_spec hg hok
  obtain ⟨g', hg'⟩ := reach_sub hg hvg hnum
  have h1 : checkErr s [w, v] = 0 := by simp [checkErr, firstW, hs0, hw0, hvw]
  refine ⟨by rw [hN], by rw [hI], p1, ?_, ?_, p2, fun hf => (p3 hf).1, ?_, fun hf hl => ?_, (wordErr_zero hvw).1, ?_⟩
  · rw [hN, hI]
    dsimp only
    unfold NextR
    rw [decide_eq_decide, uniq_zero]
    simp
  · rw [hN, hR]
    dsimp only
    intro x hx
    have hxn := (uniq_sorted _).2 x |>.1 hx
    obtain ⟨k, hk⟩ := (closed_mem hg).2 v hvg
    exact ((uniq_sorted _).2 x).2 ((closed_mem hg).1 (k + 1) x (.succ hk hxn))
  · have : meetB g.ws g'.ws = true := by
      unfold meetB
      rw [List.any_eq_true]
      exact ⟨v, hvg, by simpa using (closed_mem hg').1 0 v .zero⟩
    simp [JoinR, h1, hg, hg', this]
  · rw [hL] at hl ⊢
    dsimp only at hl ⊢
    rw [hl] at hspec
    exact (hspec.fin rfl).2 _ _ (p3 hf).2
  · rw [hN]
    dsimp only
    unfold NextR
    have k1 := uniq_len ((movesM s v).map (·.word))
    have k2 := movesM_len hs0 hvw
    rw [List.length_map] at k1
    omega
/-- What is asked of the rules that are not used. -/
theorem topU {s : List Rule} {w : Word} (h : (ReachE s w).2 = 0) (hu : 0 < (UnusedR s w).1.length) :
    (WithoutR s (el (UnusedR s w).1 ((UnusedR s w).1.length - 1))).2 = 0 ∧ ReachE (WithoutR s (el (UnusedR s w).1 ((UnusedR s w).1.length - 1))).1 w = ReachE s w := by
  have hk : (UnusedR s w).1.contains (el (UnusedR s w).1 ((UnusedR s w).1.length - 1)) = true := by
    rw [List.contains_iff_mem]
    exact el_mem_of _ _ (by omega)
  obtain ⟨a, _, b⟩ := unused_law (topF_of h).un hk
  exact ⟨a, b⟩
end Go.Proofs.Ytkhddecnllcaiaa
end
