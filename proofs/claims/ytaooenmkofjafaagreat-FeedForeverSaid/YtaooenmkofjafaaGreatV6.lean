/- Part 6 of the proof: the value layer and the contracts of the functions that the statement reaches; proved without conditions beyond those each theorem states. -/
import Derived.Test.YtaooenmkofjafaaGreatV4
import Derived.Test.YtaooenmkofjafaaGreatV5
set_option linter.unusedSimpArgs false
set_option linter.unusedVariables false

section
/- PURSE -/
/- Contracts: the reference's search. (written by gen/mkrb.py) -/
namespace Go.Proofs.YtaooenmkofjafaaGreat
open Go.Abs Go
set_option maxRecDepth 20000
set_option maxHeartbeats 8000000
attribute [local irreducible] PreK CondK CallK CallG CallX LoopK
attribute [local simp] avsEq avEq akind teq vkind vEq

theorem CX84 {args : List AV} {r : AV} (hn : args.length ≤ 82) (h : vc Tryz.prog T [13, 14] A84 (Fin T [(.cell 4 56), (.tmp 5)] r) ⟨envOf 0 args, []⟩) : CallP Tryz.prog 84 args r :=
  callP_of tok mixed Tryz.func84 (by kernel_rfl) (by kernel_rfl) (by kernel_rfl : Tryz.f84.ntmps = 82) (by kernel_rfl : Tryz.f84.body.bind (strip 82 (fun _ => [])) = some A84) hn h
theorem find_c (l : List Word) (w : Word) (hl : l.length ≤ 1000) (hs : ∀ x ∈ l, x.length ≤ 1000) : CallP Tryz.prog 109 [wordsV l, ints w] (iv (findI l w)) := by
  refine C109 (by simp) ?_
  generalize hR : findI l w = R
  unfold findI at hR
  simp [A109]
  refine LoopK.by (fun i : Nat => ⟨[(5, iv i), (0, wordsV l), (1, ints w)], []⟩) (fun i => l.length - i) (fun i => i ≤ l.length ∧ idxG (fun x => decide (x = w)) i (l.drop i) = R) 0 (by simpa using hR) (by simp) ?_
  intro i Q' ⟨hi, hc⟩ hq he hr
  try simp 
  refine CondK.intro (fun h1 => ?_) (fun h1 => ?_)
  · simp at h1
    rw [drop_cons l i h1, idxG] at hc
    try simp [h1]
    repeat' (first
      | (refine CallX.pure (same1_c (el l i) w (big_of (hs _ (el_mem_of l i h1)))) (by simp) (by simp) ?_; try simp [h1])
      | (refine CallK.intro (same1_c (el l i) w (big_of (hs _ (el_mem_of l i h1)))) (by simp) (by simp) ?_; try simp [h1])
      | (refine CallG.intro (fun _ => same1_c (el l i) w (big_of (hs _ (el_mem_of l i h1)))) (by simp) (by simp) ?_; try simp [h1])
      | ((with_reducible refine PreK.intro ?_ ?_); (next => (first | omega | (intros; first | omega | (refine ⟨by omega, ?_⟩; repeat (first | assumption | constructor)) | assumption))); intro _; try simp [h1])
      | fail)
    refine CondK.intro (fun h2 => ?_) (fun h2 => ?_)
    · simp at h2
      rw [if_pos (by simpa using h2)] at hc
      try simp 
      apply hr
      simp [← hc]
    · simp at h2
      rw [if_neg (by simpa using h2)] at hc
      try simp 
      repeat' (first
        | ((with_reducible refine PreK.intro ?_ ?_); (next => (first | omega | (intros; first | omega | (refine ⟨by omega, ?_⟩; repeat (first | assumption | constructor)) | assumption))); intro _; try simp )
        | fail)
      exact hq (i + 1) _ ⟨by omega, hc⟩ (by omega) (by simp)
  · simp at h1
    rw [List.drop_eq_nil_of_le (by omega), idxG] at hc
    try simp 
    apply he
    simp [← hc]
def rzeroV : AV := .agg [.seq 1 [] false, .seq 1 [] false, .seq 1 [] false]
def rgraphV (g : RG) : AV := .agg [wordsV g.ws, .seq 1 (g.nx.map ints) false, ints g.far]
def rreachV : Option RG → AV
  | none => .tup [rzeroV, bv false]
  | some g => .tup [rgraphV g, bv true]
structure RG.ok (g : RG) : Prop where
  fine : ∀ x ∈ g.ws, wordErr x = 0
  num : g.ws.length ≤ 300
  far : g.far.length = g.ws.length
  low : ∀ j, j < g.far.length → 0 ≤ el g.far j ∧ el g.far j ≤ j
theorem RG.ok.push {g : RG} (h : g.ok) {w : Word} {i : Nat} (hw : wordErr w = 0) (hn : g.ws.length < 300) (hi : i < g.ws.length) : RG.ok ⟨g.ws ++ [w], g.nx, g.far ++ [el g.far i + 1]⟩ := by
  have hf := h.far
  refine ⟨fun x hx => ?_, by simp; omega, by simp [hf], fun j hj => ?_⟩
  · rcases List.mem_append.1 hx with hx | hx
    · exact h.fine x hx
    · simp only [List.mem_singleton] at hx
      subst hx; exact hw
  · simp only [List.length_append, List.length_cons, List.length_nil] at hj
    dsimp only
    by_cases hj2 : j < g.far.length
    · rw [el_app_left _ _ hj2]; exact h.low j hj2
    · have : j = g.far.length := by omega
      subst this
      rw [el_app_mid]
      have := h.low i (by omega)
      omega
def rboxT (g : RG) : List (Nat × Option Box) := [(4, some ⟨3, [.agg [.seq 1 [] true, .seq 1 [] true, .seq 1 [] true]], 1, true⟩), (6, some ⟨3, [.agg [.sl 13 g.ws.length 0 g.ws.length, .seq 1 [] true, .sl 14 g.ws.length 0 g.far.length]], 1, true⟩), (13, some ⟨1, g.ws.map ints, g.ws.length, false⟩), (14, some ⟨1, g.far.map iv, g.ws.length, false⟩)]
def rboxF (g : RG) : List (Nat × Option Box) := [(4, some ⟨3, [.agg [.seq 1 [] true, .seq 1 [] true, .seq 1 [] true]], 1, true⟩), (6, some ⟨3, [.agg [.sl 13 g.ws.length 0 g.ws.length, .sl 79 g.nx.length 0 g.nx.length, .sl 14 g.ws.length 0 g.far.length]], 1, true⟩), (13, some ⟨1, g.ws.map ints, g.ws.length, false⟩), (14, some ⟨1, g.far.map iv, g.ws.length, false⟩), (79, some ⟨1, g.nx.map ints, g.nx.length, false⟩)]
attribute [local simp] rboxT rboxF
theorem reached_x (s : List Rule) (w : List Int) (h : Sys.small s) (hs : sysErr s = 0) (hw : wordErr w = 0) : CallP Tryz.prog 84 [rulesV s, ints w] (rreachV (rreachG s w)) := by
  refine CX84 (by simp) ?_
  generalize hR : rreachG s w = R
  unfold rreachG at hR
  have hok0 : RG.ok ⟨[w], [], [0]⟩ := ⟨by simpa using hw, by simp, rfl, fun j hj => by simp at hj; subst hj; simp [el]⟩
  generalize hg0 : (⟨[w], [], [0]⟩ : RG) = g0 at hR hok0
  have hg1 : g0.nx = [] := by rw [← hg0]
  have hg2 : g0.ws = [w] := by rw [← hg0]
  have hg3 : g0.far = [0] := by rw [← hg0]
  simp [A84]
  refine LoopK.by (ι := Bool × Nat × RG) (fun x => match x with
      | (true, i, g) => ⟨[(7, iv i), (6, .pt 6 1 0 0), (4, .pt 4 1 0 0), (0, rulesV s)], rboxT g⟩
      | (false, i, g) => ⟨[(7, iv i), (6, .pt 6 1 0 0), (4, .pt 4 1 0 0), (0, rulesV s)], rboxF g⟩)
    (fun x => 400 - x.2.1) (fun x => (x.1 = true → x.2.2.nx = []) ∧ x.2.2.ok ∧ x.2.1 ≤ x.2.2.ws.length ∧ x.2.2.nx.length = x.2.1 ∧ rcloseG s (301 - x.2.1) x.2.1 x.2.2 = R) (true, 0, g0) ⟨fun _ => hg1, hok0, by simp, by rw [hg1]; rfl, hR⟩ (by simp [hg2, hg3]) ?_
  intro ⟨kd, i, g⟩ Q' ⟨hkd, hok, hi, hnl, hc⟩ hq he hr
  dsimp only at hkd hok hi hnl hc
  have hnum := hok.num
  have hfl := hok.far
  obtain ⟨n, hn⟩ : ∃ n, 301 - i = n + 1 := ⟨300 - i, by omega⟩
  rw [hn, rcloseG] at hc
  by_cases hi2 : i < g.ws.length
  · rw [if_pos hi2] at hc
    have hui := hok.fine _ (el_mem_of g.ws i hi2)
    have hmc := rnext_c s (el g.ws i) h hs hui
    have hms : ∀ x ∈ nxtR s (el g.ws i), wordErr x = 0 := by
      intro x hx
      unfold nxtR at hx
      rw [(insA_spec _ [] List.Pairwise.nil).2] at hx
      simp only [List.not_mem_nil, false_or] at hx
      obtain ⟨m, hm, rfl⟩ := List.mem_map.1 hx
      exact moves_right hs hui hm
    have hml : (nxtR s (el g.ws i)).length ≤ 54 := by
      have h1 := insA_len ((movesM s (el g.ws i)).map (·.word)) []
      have h2 := movesM_len hs hui
      simp at h1
      unfold nxtR; omega
    have hnr : nxR s (el g.ws i) = nxtR s (el g.ws i) := rfl
    rw [hnr] at hc
    generalize nxtR s (el g.ws i) = ms at hmc hms hml hc
    generalize hRA : raddG (el g.far i + 1) g.ws g.far [] ms = RA at hc
    cases kd
    · try simp 
      refine CondK.intro (fun h1 => ?_) (fun h1 => ?_)
      · try simp 
        try simp [hi2]
        repeat' (first
          | (refine CallX.pure (hmc) (by simp) (by simp) ?_; try simp [hi2])
          | (refine CallK.intro (hmc) (by simp) (by simp) ?_; try simp [hi2])
          | (refine CallG.intro (fun _ => hmc) (by simp) (by simp) ?_; try simp [hi2])
          | ((with_reducible refine PreK.intro ?_ ?_); (next => (first | omega | (intros; first | omega | (refine ⟨by omega, ?_⟩; repeat (first | assumption | constructor)) | assumption))); intro _; try simp [hi2])
          | fail)
        refine LoopK.by (ι := Nat × RG × List Int) (fun x => ⟨[(10, iv x.1), (9, wordsV ms), (8, .sl 8 (x.2.2.length + 1) 0 x.2.2.length), (7, iv i), (6, .pt 6 1 0 0), (4, .pt 4 1 0 0), (0, rulesV s)], (8, some ⟨1, x.2.2.map iv, x.2.2.length + 1, false⟩) :: rboxF x.2.1⟩)
          (fun x => ms.length - x.1) (fun x => x.1 ≤ ms.length ∧ x.2.2.length = x.1 ∧ x.2.1.ok ∧ x.2.1.nx = g.nx ∧ i < x.2.1.ws.length ∧ el x.2.1.far i = el g.far i ∧ raddG (el g.far i + 1) x.2.1.ws x.2.1.far x.2.2 (ms.drop x.1) = RA) (0, g, []) ⟨by simp, rfl, hok, rfl, hi2, rfl, hRA⟩ (by simp) ?_
        intro ⟨k, g', l⟩ Q'' ⟨hk, hkl, hok', hnx, hi3, hfi, ha⟩ hq' he' hr'
        dsimp only at hk hkl hok' hnx hi3 hfi ha
        have hnum' := hok'.num
        have hfl' := hok'.far
        have hfi3 : i < g'.far.length := by omega
        try simp 
        refine CondK.intro (fun h2 => ?_) (fun h2 => ?_)
        · simp at h2
          have h8 := hms _ (el_mem_of ms k h2)
          rw [drop_cons ms k h2, raddG] at ha
          have hfc := find_c g'.ws (el ms k) (by omega) (fun x hx => by have := (wordErr_zero (hok'.fine x hx)).1; omega)
          have hfa := idxG_lt (fun x => decide (x = el ms k)) g'.ws 0
          have hfr : findI g'.ws (el ms k) = idxG (fun x => decide (x = el ms k)) 0 g'.ws := rfl
          have hfb : findI g'.ws (el ms k) = -1 ∨ (0 ≤ findI g'.ws (el ms k) ∧ findI g'.ws (el ms k) < g'.ws.length) := by
            rcases hfa with e | ⟨j, j1, j2, _⟩
            · exact .inl (hfr.trans e)
            · right; rw [hfr, j2]; omega
          try simp [h2]
          repeat (refine PreK.intro (by first | omega | (intros; first | omega | (refine ⟨by omega, ?_⟩; simp_all; done) | (simp_all; done) | (simp_all; omega))) fun _ => ?_; (try simp [h2]))
          refine CallK.intro (by simpa using hfc) (by simp) (by simp) ?_
          try simp [h2]
          repeat (refine PreK.intro (by first | omega | (intros; first | omega | (refine ⟨by omega, ?_⟩; simp_all; done) | (simp_all; done) | (simp_all; omega))) fun _ => ?_; (try simp [h2]))
          refine CondK.intro (fun h3 => ?_) (fun h3 => ?_)
          · simp at h3
            rw [if_pos h3] at ha
            try simp 
            refine CondK.intro (fun h4 => ?_) (fun h4 => ?_)
            · simp at h4
              rw [if_pos (by omega)] at ha
              subst ha
              try simp 
              apply hr'
              apply hr
              simp [rreachV, rzeroV, ← hc]
            · simp at h4
              rw [if_neg (by omega)] at ha
              have hfi2 := hok'.low i (by omega)
              try simp [h2, hi3, hfi3]
              repeat (refine PreK.intro (by first | omega | (intros; first | omega | (refine ⟨by omega, ?_⟩; simp_all; done) | (simp_all; done) | (simp_all; omega))) fun _ => ?_; (try simp [h2, hi3, hfi3]))
              try simp [h2, hi3, hfi3]
              repeat (refine PreK.intro (by first | omega | (intros; first | omega | (refine ⟨by omega, ?_⟩; simp_all; done) | (simp_all; done) | (simp_all; omega))) fun _ => ?_; (try simp [h2, hi3, hfi3]))
              try simp [h2, hi3, hfi3]
              repeat (refine PreK.intro (by first | omega | (intros; first | omega | (refine ⟨by omega, ?_⟩; simp_all; done) | (simp_all; done) | (simp_all; omega))) fun _ => ?_; (try simp [h2, hi3, hfi3]))
              refine hq' (k + 1, ⟨g'.ws ++ [el ms k], g'.nx, g'.far ++ [el g'.far i + 1]⟩, l ++ [(g'.ws.length : Int)]) _ ⟨by dsimp only; omega, by simp [hkl], hok'.push h8 (by omega) (by omega), hnx, by simp; omega, ?_, ?_⟩ (by dsimp only; omega) (by simp)
              · dsimp only
                rw [el_app_left _ _ (by omega)]
                exact hfi
              · dsimp only
                rw [hfi]; exact ha
          · simp at h3
            rw [if_neg (by omega)] at ha
            try simp 
            repeat (refine PreK.intro (by first | omega | (intros; first | omega | (refine ⟨by omega, ?_⟩; simp_all; done) | (simp_all; done) | (simp_all; omega))) fun _ => ?_; (try simp ))
            try simp 
            repeat (refine PreK.intro (by first | omega | (intros; first | omega | (refine ⟨by omega, ?_⟩; simp_all; done) | (simp_all; done) | (simp_all; omega))) fun _ => ?_; (try simp ))
            refine hq' (k + 1, g', l ++ [findI g'.ws (el ms k)]) _ ⟨by dsimp only; omega, by simp [hkl], hok', hnx, hi3, hfi, ha⟩ (by dsimp only; omega) (by simp)
        · simp at h2
          rw [List.drop_eq_nil_of_le (by omega), raddG] at ha
          subst ha
          have hnn : g'.nx.length = i := by rw [hnx]; exact hnl
          try simp 
          apply he'
          try simp 
          repeat' (first
            | ((with_reducible refine PreK.intro ?_ ?_); (next => (first | omega | (intros; first | omega | (refine ⟨by omega, ?_⟩; repeat (first | assumption | constructor)) | assumption))); intro _; try simp )
            | fail)
          refine hq (false, i + 1, ⟨g'.ws, g'.nx ++ [l], g'.far⟩) _ ⟨fun e => (by cases e), ⟨hok'.fine, hok'.num, hok'.far, hok'.low⟩, hi3, by simp [hnn], by dsimp only; rw [show 301 - (i + 1) = n by omega, hnx]; exact hc⟩ (by dsimp only; omega) (by simp)
      · simp at h1
        omega
    · have hnx0 := hkd rfl
      try simp 
      refine CondK.intro (fun h1 => ?_) (fun h1 => ?_)
      · try simp 
        try simp [hi2]
        repeat' (first
          | (refine CallX.pure (hmc) (by simp) (by simp) ?_; try simp [hi2])
          | (refine CallK.intro (hmc) (by simp) (by simp) ?_; try simp [hi2])
          | (refine CallG.intro (fun _ => hmc) (by simp) (by simp) ?_; try simp [hi2])
          | ((with_reducible refine PreK.intro ?_ ?_); (next => (first | omega | (intros; first | omega | (refine ⟨by omega, ?_⟩; repeat (first | assumption | constructor)) | assumption))); intro _; try simp [hi2])
          | fail)
        refine LoopK.by (ι := Nat × RG × List Int) (fun x => ⟨[(10, iv x.1), (9, wordsV ms), (8, .sl 8 (x.2.2.length + 1) 0 x.2.2.length), (7, iv i), (6, .pt 6 1 0 0), (4, .pt 4 1 0 0), (0, rulesV s)], (8, some ⟨1, x.2.2.map iv, x.2.2.length + 1, false⟩) :: rboxT x.2.1⟩)
          (fun x => ms.length - x.1) (fun x => x.1 ≤ ms.length ∧ x.2.2.length = x.1 ∧ x.2.1.ok ∧ x.2.1.nx = g.nx ∧ i < x.2.1.ws.length ∧ el x.2.1.far i = el g.far i ∧ raddG (el g.far i + 1) x.2.1.ws x.2.1.far x.2.2 (ms.drop x.1) = RA) (0, g, []) ⟨by simp, rfl, hok, rfl, hi2, rfl, hRA⟩ (by simp) ?_
        intro ⟨k, g', l⟩ Q'' ⟨hk, hkl, hok', hnx, hi3, hfi, ha⟩ hq' he' hr'
        dsimp only at hk hkl hok' hnx hi3 hfi ha
        have hnum' := hok'.num
        have hfl' := hok'.far
        have hfi3 : i < g'.far.length := by omega
        try simp 
        refine CondK.intro (fun h2 => ?_) (fun h2 => ?_)
        · simp at h2
          have h8 := hms _ (el_mem_of ms k h2)
          rw [drop_cons ms k h2, raddG] at ha
          have hfc := find_c g'.ws (el ms k) (by omega) (fun x hx => by have := (wordErr_zero (hok'.fine x hx)).1; omega)
          have hfa := idxG_lt (fun x => decide (x = el ms k)) g'.ws 0
          have hfr : findI g'.ws (el ms k) = idxG (fun x => decide (x = el ms k)) 0 g'.ws := rfl
          have hfb : findI g'.ws (el ms k) = -1 ∨ (0 ≤ findI g'.ws (el ms k) ∧ findI g'.ws (el ms k) < g'.ws.length) := by
            rcases hfa with e | ⟨j, j1, j2, _⟩
            · exact .inl (hfr.trans e)
            · right; rw [hfr, j2]; omega
          try simp [h2]
          repeat (refine PreK.intro (by first | omega | (intros; first | omega | (refine ⟨by omega, ?_⟩; simp_all; done) | (simp_all; done) | (simp_all; omega))) fun _ => ?_; (try simp [h2]))
          refine CallK.intro (by simpa using hfc) (by simp) (by simp) ?_
          try simp [h2]
          repeat (refine PreK.intro (by first | omega | (intros; first | omega | (refine ⟨by omega, ?_⟩; simp_all; done) | (simp_all; done) | (simp_all; omega))) fun _ => ?_; (try simp [h2]))
          refine CondK.intro (fun h3 => ?_) (fun h3 => ?_)
          · simp at h3
            rw [if_pos h3] at ha
            try simp 
            refine CondK.intro (fun h4 => ?_) (fun h4 => ?_)
            · simp at h4
              rw [if_pos (by omega)] at ha
              subst ha
              try simp 
              apply hr'
              apply hr
              simp [rreachV, rzeroV, ← hc]
            · simp at h4
              rw [if_neg (by omega)] at ha
              have hfi2 := hok'.low i (by omega)
              try simp [h2, hi3, hfi3]
              repeat (refine PreK.intro (by first | omega | (intros; first | omega | (refine ⟨by omega, ?_⟩; simp_all; done) | (simp_all; done) | (simp_all; omega))) fun _ => ?_; (try simp [h2, hi3, hfi3]))
              try simp [h2, hi3, hfi3]
              repeat (refine PreK.intro (by first | omega | (intros; first | omega | (refine ⟨by omega, ?_⟩; simp_all; done) | (simp_all; done) | (simp_all; omega))) fun _ => ?_; (try simp [h2, hi3, hfi3]))
              try simp [h2, hi3, hfi3]
              repeat (refine PreK.intro (by first | omega | (intros; first | omega | (refine ⟨by omega, ?_⟩; simp_all; done) | (simp_all; done) | (simp_all; omega))) fun _ => ?_; (try simp [h2, hi3, hfi3]))
              refine hq' (k + 1, ⟨g'.ws ++ [el ms k], g'.nx, g'.far ++ [el g'.far i + 1]⟩, l ++ [(g'.ws.length : Int)]) _ ⟨by dsimp only; omega, by simp [hkl], hok'.push h8 (by omega) (by omega), hnx, by simp; omega, ?_, ?_⟩ (by dsimp only; omega) (by simp)
              · dsimp only
                rw [el_app_left _ _ (by omega)]
                exact hfi
              · dsimp only
                rw [hfi]; exact ha
          · simp at h3
            rw [if_neg (by omega)] at ha
            try simp 
            repeat (refine PreK.intro (by first | omega | (intros; first | omega | (refine ⟨by omega, ?_⟩; simp_all; done) | (simp_all; done) | (simp_all; omega))) fun _ => ?_; (try simp ))
            try simp 
            repeat (refine PreK.intro (by first | omega | (intros; first | omega | (refine ⟨by omega, ?_⟩; simp_all; done) | (simp_all; done) | (simp_all; omega))) fun _ => ?_; (try simp ))
            refine hq' (k + 1, g', l ++ [findI g'.ws (el ms k)]) _ ⟨by dsimp only; omega, by simp [hkl], hok', hnx, hi3, hfi, ha⟩ (by dsimp only; omega) (by simp)
        · simp at h2
          rw [List.drop_eq_nil_of_le (by omega), raddG] at ha
          subst ha
          have hnn : g'.nx = [] := by rw [hnx]; exact hnx0
          have hi0 : i = 0 := by rw [← hnl, hnx0]; rfl
          try simp 
          apply he'
          try simp 
          repeat' (first
            | ((with_reducible refine PreK.intro ?_ ?_); (next => (first | omega | (intros; first | omega | (refine ⟨by omega, ?_⟩; repeat (first | assumption | constructor)) | assumption))); intro _; try simp )
            | fail)
          refine hq (false, i + 1, ⟨g'.ws, g'.nx ++ [l], g'.far⟩) _ ⟨fun e => (by cases e), ⟨hok'.fine, hok'.num, hok'.far, hok'.low⟩, hi3, by simp [hnn, hi0], by dsimp only; rw [show 301 - (i + 1) = n by omega, hnx]; exact hc⟩ (by dsimp only; omega) (by simp [hnn])
      · simp at h1
        omega
  · rw [if_neg hi2] at hc
    cases kd
    · try simp 
      refine CondK.intro (fun h1 => ?_) (fun h1 => ?_)
      · simp at h1
        omega
      · try simp 
        apply he
        try simp 
        simp [rreachV, rgraphV, ← hc]
    · have hnx0 := hkd rfl
      try simp 
      refine CondK.intro (fun h1 => ?_) (fun h1 => ?_)
      · simp at h1
        omega
      · try simp 
        apply he
        try simp 
        simp [rreachV, rgraphV, ← hc, hnx0]
end Go.Proofs.YtaooenmkofjafaaGreat
end

section
/- Contracts: the reference's Reach; the statement FeedReaches. -/
namespace Go.Proofs.YtaooenmkofjafaaGreat
open Go.Abs Go
set_option maxRecDepth 20000
set_option maxHeartbeats 2000000
attribute [local irreducible] PreK CondK CallK CallG CallX LoopK
attribute [local simp] avsEq avEq akind teq vkind vEq

theorem rcloseG_ok {s : List Rule} (hs : sysErr s = 0) : ∀ {n i : Nat} {g g' : RG}, g.ok → i ≤ g.ws.length → rcloseG s n i g = some g' → g'.ok
  | 0, i, g, g', h, _, e => by
    simp only [rcloseG, Option.some.injEq] at e
    subst e; exact h
  | n + 1, i, g, g', h, hi, e => by
    rw [rcloseG] at e
    split at e
    · rename_i hi2
      have hu := h.fine _ (el_mem_of g.ws i hi2)
      have hm : ∀ x ∈ nxR s (el g.ws i), wordErr x = 0 := by
        intro x hx
        obtain ⟨m, hm, rfl⟩ := List.mem_map.1 (mem_nxR.1 hx)
        exact moves_right hs hu hm
      have key : ∀ (l : List Word) (ws : List Word) (fr ls : List Int) (nx : List (List Int)) (q : List Word × List Int × List Int), (∀ x ∈ l, wordErr x = 0) → RG.ok ⟨ws, nx, fr⟩ → i < ws.length → el fr i = el g.far i →
          raddG (el g.far i + 1) ws fr ls l = some q → RG.ok ⟨q.1, nx, q.2.1⟩ ∧ i < q.1.length := by
        intro l
        induction l with
        | nil =>
          intro ws fr ls nx q _ hok hi3 _ hq
          simp only [raddG, Option.some.injEq] at hq
          subst hq; exact ⟨hok, hi3⟩
        | cons v l ih =>
          intro ws fr ls nx q hl hok hi3 hfi hq
          rw [raddG] at hq
          split at hq
          · split at hq
            · cases hq
            · rename_i h3
              have hnum := hok.num
              dsimp only at hnum
              have hp := hok.push (w := v) (i := i) (hl v (by simp)) (by dsimp only; omega) hi3
              dsimp only at hp
              rw [hfi] at hp
              refine ih _ _ _ nx q (fun x hx => hl x (by simp [hx])) hp (by simp; omega) ?_ hq
              rw [el_app_left _ _ (by have := hok.far; dsimp only at this; omega)]
              exact hfi
          · exact ih _ _ _ nx q (fun x hx => hl x (by simp [hx])) hok hi3 hfi hq
      cases ha : raddG (el g.far i + 1) g.ws g.far [] (nxR s (el g.ws i)) with
      | none => rw [ha] at e; cases e
      | some q =>
        obtain ⟨q1, q2, q3⟩ := q
        rw [ha] at e
        obtain ⟨k1, k2⟩ := key _ _ _ _ g.nx _ hm ⟨h.fine, h.num, h.far, h.low⟩ hi2 rfl ha
        exact rcloseG_ok (g := ⟨q1, g.nx ++ [q3], q2⟩) hs ⟨k1.fine, k1.num, k1.far, k1.low⟩ (by dsimp only at k2 ⊢; omega) e
    · simp only [Option.some.injEq] at e
      subst e; exact h
theorem rreachG_ok {s : List Rule} {w : Word} {g : RG} (h : swErr s w = 0) (e : rreachG s w = some g) : g.ok := by
  refine rcloseG_ok (swErr_zero h).1 ⟨by simpa using (swErr_zero h).2, by simp, rfl, fun j hj => ?_⟩ (Nat.zero_le _) e
  simp at hj
  subst hj
  simp [el]
def rgraphedV (s : List Rule) (w : Word) : AV := if swErr s w ≠ 0 then .tup [rzeroV, iv (swErr s w)] else match rreachG s w with
  | none => .tup [rzeroV, iv 3]
  | some g => .tup [rgraphV g, iv 0]
theorem graphed_c (s : List Rule) (w : List Int) (h : Sys.small s) (hw : w.length ≤ 1000) : CallP Tryz.prog 41 [rulesV s, ints w] (rgraphedV s w) := by
  refine C41 (by simp) ?_
  have hck := rworded_c s w [] h hw (by simp)
  rw [check_nil] at hck
  simp [A41]
  try simp 
  repeat' (first
    | (refine CallX.pure (hck) (by simp) (by simp) ?_; try simp )
    | (refine CallK.intro (hck) (by simp) (by simp) ?_; try simp )
    | (refine CallG.intro (fun _ => hck) (by simp) (by simp) ?_; try simp )
    | ((with_reducible refine PreK.intro ?_ ?_); (next => (first | omega | (intros; first | omega | (refine ⟨by omega, ?_⟩; repeat (first | assumption | constructor)) | assumption))); intro _; try simp )
    | fail)
  refine CondK.intro (fun h1 => ?_) (fun h1 => ?_)
  · simp at h1
    simp [rgraphedV, h1, rzeroV]
  · simp at h1
    have hx := reached_x s w h (swErr_zero h1).1 (swErr_zero h1).2
    have e : rgraphedV s w = match rreachG s w with | none => .tup [rzeroV, iv 3] | some g => .tup [rgraphV g, iv 0] := by simp [rgraphedV, h1]
    rw [e]
    cases hg : rreachG s w with
    | none =>
      rw [hg] at hx
      simp only [rreachV, rzeroV] at hx ⊢
      try simp 
      repeat' (first
        | (refine CallX.pure (hx) (by simp) (by simp) ?_; try simp )
        | (refine CallK.intro (hx) (by simp) (by simp) ?_; try simp )
        | (refine CallG.intro (fun _ => hx) (by simp) (by simp) ?_; try simp )
        | ((with_reducible refine PreK.intro ?_ ?_); (next => (first | omega | (intros; first | omega | (refine ⟨by omega, ?_⟩; repeat (first | assumption | constructor)) | assumption))); intro _; try simp )
        | fail)
      refine CondK.intro (fun h2 => ?_) (fun h2 => ?_)
      · try simp 
        repeat' (first
          | ((with_reducible refine PreK.intro ?_ ?_); (next => (first | omega | (intros; first | omega | (refine ⟨by omega, ?_⟩; repeat (first | assumption | constructor)) | assumption))); intro _; try simp )
          | fail)
      · simp at h2
    | some g =>
      rw [hg] at hx
      simp only [rreachV, rgraphV] at hx ⊢
      try simp 
      repeat' (first
        | (refine CallX.pure (hx) (by simp) (by simp) ?_; try simp )
        | (refine CallK.intro (hx) (by simp) (by simp) ?_; try simp )
        | (refine CallG.intro (fun _ => hx) (by simp) (by simp) ?_; try simp )
        | ((with_reducible refine PreK.intro ?_ ?_); (next => (first | omega | (intros; first | omega | (refine ⟨by omega, ?_⟩; repeat (first | assumption | constructor)) | assumption))); intro _; try simp )
        | fail)
      refine CondK.intro (fun h2 => ?_) (fun h2 => ?_)
      · simp at h2
      · try simp 
        repeat' (first
          | ((with_reducible refine PreK.intro ?_ ?_); (next => (first | omega | (intros; first | omega | (refine ⟨by omega, ?_⟩; repeat (first | assumption | constructor)) | assumption))); intro _; try simp )
          | fail)
end Go.Proofs.YtaooenmkofjafaaGreat
end

section
/- Plain: the reference's longest walk, found in rounds over the edges of its graph. -/
namespace Go.Proofs.YtaooenmkofjafaaGreat
open Go.Abs Go

def rowE (i : Nat) (l : List Int) : List (Nat × Nat) := l.map fun j => (i, j.toNat)
def edgesF : Nat → List (List Int) → List (Nat × Nat)
  | _, [] => []
  | i, l :: r => rowE i l ++ edgesF (i + 1) r
theorem edgesF_mem : ∀ {r : List (List Int)} {i : Nat} {e : Nat × Nat}, e ∈ edgesF i r ↔ ∃ j, j < r.length ∧ e.1 = i + j ∧ ∃ x ∈ el r j, e.2 = x.toNat
  | [], i, e => by simp [edgesF]
  | l :: r, i, e => by
    rw [edgesF, List.mem_append, edgesF_mem]
    constructor
    · rintro (h | ⟨j, h1, h2, x, h3, h4⟩)
      · obtain ⟨x, hx, rfl⟩ := List.mem_map.1 h
        exact ⟨0, by simp, rfl, x, by simpa [el] using hx, rfl⟩
      · exact ⟨j + 1, by simpa using h1, by omega, x, by simpa [el] using h3, h4⟩
    · rintro ⟨j, h1, h2, x, h3, h4⟩
      cases j with
      | zero =>
        left
        refine List.mem_map.2 ⟨x, by simpa [el] using h3, ?_⟩
        apply Prod.ext
        · simp [h2]
        · exact h4.symm
      | succ j => exact .inr ⟨j, by simpa using h1, by omega, x, by simpa [el] using h3, h4⟩
theorem edgesF_len {M : Nat} : ∀ {r : List (List Int)} {i : Nat}, (∀ l ∈ r, l.length ≤ M) → (edgesF i r).length ≤ r.length * M
  | [], i, _ => by simp [edgesF]
  | l :: r, i, h => by
    have h1 := h l (by simp)
    have h2 := edgesF_len (r := r) (i := i + 1) (M := M) fun x hx => h x (by simp [hx])
    simp only [edgesF, rowE, List.length_append, List.length_map, List.length_cons, Nat.succ_mul]
    omega
/-- All are between zero and a bound. -/
def inB (o : List Int) (M : Int) : Prop := ∀ i, 0 ≤ el o i ∧ el o i ≤ M
theorem relM_inB {o : List Int} {b : Int} {c : Bool} {e : Nat × Nat} {M : Int} (h : inB o M) (hl : e.2 < o.length) : inB (relM (o, b, c) e).1 (M + 1) := by
  intro i
  unfold relM
  split
  · show 0 ≤ el (o.set e.2 (el o e.1 + 1)) i ∧ el (o.set e.2 (el o e.1 + 1)) i ≤ M + 1
    rw [el_setG _ _ _ _ hl]
    have h1 := h e.1
    have h2 := h i
    split <;> omega
  · have := h i
    exact ⟨this.1, Int.le_trans this.2 (by omega)⟩
def rLongestG (g : RG) : Int × Bool := match relN (edgesF 0 g.nx) (g.ws.length + 1) (List.replicate g.ws.length 0) 0 with
  | some m => (m, true)
  | none => (0, false)
theorem rclosed {s : List Rule} {w : Word} {g : RG} (h : rreachG s w = some g) : AllOK (nxR s) w g.ws ∧ EdgesOK (nxR s) g.ws (edgesF 0 g.nx) ∧ g.nx.length = g.ws.length ∧ (∀ j, j < g.ws.length → atsOf g.ws (el g.nx j) (nxR s (el g.ws j))) := by
  have h1 := rreachG_F s w
  rw [h] at h1
  cases hc : closeM (nxR s) w with
  | none => rw [hc] at h1; exact h1.elim
  | some ws =>
    rw [hc] at h1
    obtain ⟨hd, _⟩ := h1
    have hcl := closeM_some hc
    have hlen : g.ws.length = ws.length := by rw [hd.words]; simp
    have hall : ∀ n x, ReachN (nxR s) w n x → x ∈ g.ws := fun n x hx => by
      obtain ⟨z, hz, e, _⟩ := hcl.all n x hx
      rw [hd.words]
      exact List.mem_map.2 ⟨z, hz, e⟩
    have hats : ∀ j, j < g.ws.length → atsOf g.ws (el g.nx j) (nxR s (el g.ws j)) := fun j hj => hd.nx j (by omega)
    refine ⟨⟨hall 0 w .zero, fun x hx => ?_, hall⟩, ⟨fun e he => ?_, fun i hi x hx => ?_⟩, by rw [hd.num, hlen], hats⟩
    · rw [hd.words] at hx
      obtain ⟨y, hy, rfl⟩ := List.mem_map.1 hx
      exact ⟨_, hcl.reach y hy⟩
    · obtain ⟨j, h1, h2, x, h3, h4⟩ := edgesF_mem.1 he
      have hj : j < g.ws.length := by rw [hd.num] at h1; omega
      obtain ⟨a1, a2⟩ := hats j hj
      obtain ⟨q, hq, rfl⟩ := List.getElem_of_mem h3
      obtain ⟨k, k1, k2, k3⟩ := a2 q (by omega)
      rw [el_eq _ q hq] at k1
      have e1 : e.1 = j := by omega
      have e2 : e.2 = k := by omega
      rw [e1, e2]
      refine ⟨hj, k2, ?_⟩
      rw [k3]
      exact el_mem_of _ q (by omega)
    · obtain ⟨a1, a2⟩ := hats i hi
      obtain ⟨q, hq, rfl⟩ := List.getElem_of_mem hx
      obtain ⟨k, k1, k2, k3⟩ := a2 q hq
      refine ⟨k, edgesF_mem.2 ⟨i, by rw [hd.num]; omega, by simp, el (el g.nx i) q, el_mem_of _ q (by omega), by omega⟩, ?_⟩
      rw [k3, el_eq _ q hq]
theorem rlongestG_spec {s : List Rule} {w : Word} {g : RG} (h : rreachG s w = some g) : LongR (nxP s) w (rLongestG g).1 (rLongestG g).2 := by
  obtain ⟨ha, he, _, _⟩ := rclosed h
  have hel : ∀ k, el (List.replicate g.ws.length (0 : Int)) k = 0 := by
    intro k
    by_cases hk : k < g.ws.length
    · rw [el_eq _ _ (by simpa using hk)]; simp
    · unfold el
      rw [List.getD_eq_getElem?_getD, List.getElem?_eq_none (by simp; omega)]; rfl
  have hr := relN_spec ha he (g.ws.length + 1) 0 (List.replicate g.ws.length 0) 0 (by omega)
    ⟨by simp, fun i hi => ⟨0, hel i, _, el_mem_of g.ws i hi, .zero⟩, fun i hi => by rw [hel]; omega, .inl rfl, by omega⟩
    (fun e _ => .inr (by rw [hel]; omega)) (.inl rfl)
  unfold rLongestG
  cases hn : relN (edgesF 0 g.nx) (g.ws.length + 1) (List.replicate g.ws.length 0) 0 with
  | some m => rw [hn] at hr; exact hr.congr fun v x => mem_nxR
  | none => rw [hn] at hr; exact hr.congr fun v x => mem_nxR
end Go.Proofs.YtaooenmkofjafaaGreat
end

section
/- Functions of the cut as the value layer reads them. (written by gen.py) -/
set_option maxRecDepth 20000
namespace Go.Proofs.YtaooenmkofjafaaGreat
open Go.Abs Go

def A42 : ACode :=
  (.seq (.reg [] [⟨some 1, (.box 56 (.tmp 0)), 0, none⟩,
      ⟨some 2, (.assign (.const (.int .i64 0))), 3, none⟩,
      ⟨some 3, (.assign (.const (.bool false))), 4, none⟩])
    (.seq (.reg [] [⟨some 11, (.fieldAddr 56 (.tmp 1) 0), 0, none⟩,
      ⟨some 12, (.load 33 (.tmp 11)), 33, none⟩,
      ⟨some 13, (.call ⟨(.builtin .len), #[(.tmp 12)], #[33]⟩), 3, none⟩,
      ⟨some 14, (.makeSlice 23 (.tmp 13) (.tmp 13)), 23, none⟩,
      ⟨some 4, (.assign (.tmp 14)), 23, none⟩])
    (.seq (.reg [] [⟨some 5, (.assign (.const (.int .i64 0))), 3, none⟩])
    (.seq (.seq (.reg [] [⟨some 6, (.assign (.const (.int .i64 0))), 3, none⟩])
    (.block 0 (.loop (.seq (.seq (.reg [] [⟨some 15, (.move (.tmp 6)), 3, none⟩,
      ⟨some 16, (.fieldAddr 56 (.tmp 1) 0), 0, none⟩,
      ⟨some 17, (.load 33 (.tmp 16)), 33, none⟩,
      ⟨some 18, (.call ⟨(.builtin .len), #[(.tmp 17)], #[33]⟩), 3, none⟩,
      ⟨some 19, (.binOp .leq 3 (.tmp 15) (.tmp 18) 3), 4, none⟩])
    (.cond (.tmp 19)
    .skip
    (.exit 0)))
    (.seq (.block 1 (.seq (.reg [] [⟨some 7, (.assign (.const (.bool false))), 4, none⟩])
    (.seq (.seq (.reg [] [⟨some 8, (.assign (.const (.int .i64 0))), 3, none⟩])
    (.block 2 (.loop (.seq (.seq (.reg [] [⟨some 22, (.move (.tmp 8)), 3, none⟩,
      ⟨some 23, (.fieldAddr 56 (.tmp 1) 0), 0, none⟩,
      ⟨some 24, (.load 33 (.tmp 23)), 33, none⟩,
      ⟨some 25, (.call ⟨(.builtin .len), #[(.tmp 24)], #[33]⟩), 3, none⟩,
      ⟨some 26, (.binOp .lss 3 (.tmp 22) (.tmp 25) 3), 4, none⟩])
    (.cond (.tmp 26)
    .skip
    (.exit 2)))
    (.seq (.block 3 (.seq (.reg [] [⟨some 9, (.assign (.const (.int .i64 0))), 3, none⟩])
    (.block 4 (.loop (.seq (.seq (.reg [] [⟨some 29, (.move (.tmp 9)), 3, none⟩,
      ⟨some 30, (.fieldAddr 56 (.tmp 1) 1), 0, none⟩,
      ⟨some 31, (.load 33 (.tmp 30)), 33, none⟩,
      ⟨some 32, (.move (.tmp 8)), 3, none⟩,
      ⟨some 33, (.indexAddr 33 (.tmp 31) (.tmp 32)), 0, none⟩,
      ⟨some 34, (.load 23 (.tmp 33)), 23, none⟩,
      ⟨some 35, (.call ⟨(.builtin .len), #[(.tmp 34)], #[23]⟩), 3, none⟩,
      ⟨some 36, (.binOp .lss 3 (.tmp 29) (.tmp 35) 3), 4, none⟩])
    (.cond (.tmp 36)
    .skip
    (.exit 4)))
    (.seq (.block 5 (.seq (.reg [] [⟨some 39, (.fieldAddr 56 (.tmp 1) 1), 0, none⟩,
      ⟨some 40, (.load 33 (.tmp 39)), 33, none⟩,
      ⟨some 41, (.move (.tmp 8)), 3, none⟩,
      ⟨some 42, (.indexAddr 33 (.tmp 40) (.tmp 41)), 0, none⟩,
      ⟨some 43, (.load 23 (.tmp 42)), 23, none⟩,
      ⟨some 44, (.move (.tmp 9)), 3, none⟩,
      ⟨some 45, (.indexAddr 23 (.tmp 43) (.tmp 44)), 0, none⟩,
      ⟨some 46, (.load 3 (.tmp 45)), 3, none⟩,
      ⟨some 10, (.assign (.tmp 46)), 3, none⟩])
    (.seq (.draw [] [⟨some 47, (.move (.tmp 4)), 23, none⟩,
      ⟨some 48, (.move (.tmp 10)), 3, none⟩,
      ⟨some 49, (.indexAddr 23 (.tmp 47) (.tmp 48)), 0, none⟩,
      ⟨some 50, (.load 3 (.tmp 49)), 3, none⟩,
      ⟨some 51, (.move (.tmp 4)), 23, none⟩,
      ⟨some 52, (.move (.tmp 8)), 3, none⟩,
      ⟨some 53, (.indexAddr 23 (.tmp 51) (.tmp 52)), 0, none⟩,
      ⟨some 54, (.load 3 (.tmp 53)), 3, none⟩,
      ⟨some 55, (.binOp .add 3 (.tmp 54) (.const (.int .i64 1)) 3), 3, none⟩,
      ⟨some 56, (.binOp .lss 3 (.tmp 50) (.tmp 55) 3), 4, none⟩] [(0, 1), (0, 4), (1, 4), (2, 4), (3, 4), (0, 5), (1, 5), (2, 5), (3, 5), (4, 5), (0, 6), (1, 6), (2, 6), (3, 6), (0, 7), (1, 7), (2, 7), (3, 7), (0, 8), (1, 8), (2, 8), (3, 8)])
    (.cond (.tmp 56)
    (.seq (.reg [] [⟨some 57, (.move (.tmp 4)), 23, none⟩,
      ⟨some 58, (.move (.tmp 10)), 3, none⟩,
      ⟨some 59, (.move (.tmp 4)), 23, none⟩,
      ⟨some 60, (.move (.tmp 8)), 3, none⟩,
      ⟨some 61, (.indexAddr 23 (.tmp 59) (.tmp 60)), 0, none⟩,
      ⟨some 62, (.load 3 (.tmp 61)), 3, none⟩,
      ⟨some 63, (.binOp .add 3 (.tmp 62) (.const (.int .i64 1)) 3), 3, none⟩,
      ⟨some 64, (.indexAddr 23 (.tmp 57) (.tmp 58)), 0, none⟩,
      ⟨none, (.store 3 (.tmp 64) (.tmp 63)), 0, none⟩])
    (.seq (.reg [] [⟨some 65, (.move (.tmp 5)), 3, none⟩,
      ⟨some 66, (.move (.tmp 4)), 23, none⟩,
      ⟨some 67, (.move (.tmp 10)), 3, none⟩,
      ⟨some 68, (.indexAddr 23 (.tmp 66) (.tmp 67)), 0, none⟩,
      ⟨some 69, (.load 3 (.tmp 68)), 3, none⟩,
      ⟨some 70, (.call ⟨(.builtin .max), #[(.tmp 65), (.tmp 69)], #[3, 3]⟩), 3, none⟩,
      ⟨some 5, (.assign (.tmp 70)), 3, none⟩])
    (.reg [] [⟨some 7, (.assign (.const (.bool true))), 4, none⟩])))
    .skip))))
    (.reg [] [⟨some 37, (.move (.tmp 9)), 3, none⟩,
      ⟨some 38, (.binOp .add 3 (.tmp 37) (.const (.int .i64 1)) 3), 3, none⟩,
      ⟨some 9, (.assign (.tmp 38)), 3, none⟩])))))))
    (.reg [] [⟨some 27, (.move (.tmp 8)), 3, none⟩,
      ⟨some 28, (.binOp .add 3 (.tmp 27) (.const (.int .i64 1)) 3), 3, none⟩,
      ⟨some 8, (.assign (.tmp 28)), 3, none⟩]))))))
    (.seq (.reg [] [⟨some 71, (.move (.tmp 7)), 4, none⟩,
      ⟨some 72, (.unOp .not 4 (.tmp 71)), 4, none⟩])
    (.cond (.tmp 72)
    (.seq (.reg [] [⟨some 73, (.move (.tmp 5)), 3, none⟩,
      ⟨some 2, (.assign (.tmp 73)), 3, none⟩,
      ⟨some 3, (.assign (.const (.bool true))), 4, none⟩])
    .ret)
    .skip)))))
    (.reg [] [⟨some 20, (.move (.tmp 6)), 3, none⟩,
      ⟨some 21, (.binOp .add 3 (.tmp 20) (.const (.int .i64 1)) 3), 3, none⟩,
      ⟨some 6, (.assign (.tmp 21)), 3, none⟩]))))))
    (.seq (.reg [] [⟨some 2, (.assign (.const (.int .i64 0))), 3, none⟩,
      ⟨some 3, (.assign (.const (.bool false))), 4, none⟩])
    .ret)))))
theorem C42 {args : List AV} {r : AV} (hn : args.length ≤ 74) (h : vc Tryz.prog T [] A42 (Fin T [(.tmp 2), (.tmp 3)] r) ⟨envOf 0 args, []⟩) : CallP Tryz.prog 42 args r :=
  callP_of tok mixed Tryz.func42 (by kernel_rfl) (by kernel_rfl) (by kernel_rfl : Tryz.f42.ntmps = 74) (by kernel_rfl : Tryz.f42.body.bind (strip 74 (fun _ => [])) = some A42) hn h
def A14 : ACode :=
  (.seq (.reg [] [⟨some 4, (.assign (.const (.int .i64 0))), 3, none⟩,
      ⟨some 5, (.assign (.const (.bool false))), 4, none⟩,
      ⟨some 6, (.assign (.const (.int .i64 0))), 27, none⟩])
    (.seq (.reg [] [⟨some 12, (.move (.tmp 0)), 22, none⟩,
      ⟨some 13, (.move (.tmp 1)), 23, none⟩,
      ⟨some 14, (.call ⟨(.value (.func 41)), #[(.tmp 12), (.tmp 13)], #[22, 23]⟩), 57, none⟩,
      ⟨some 11, (.move (.tmp 14)), 57, none⟩,
      ⟨some 15, (.extract (.tmp 11) 0), 56, none⟩,
      ⟨some 16, (.extract (.tmp 11) 1), 27, none⟩,
      ⟨some 7, (.alloc 56), 0, none⟩,
      ⟨none, (.store 56 (.tmp 7) (.tmp 15)), 0, none⟩,
      ⟨some 8, (.assign (.tmp 16)), 27, none⟩])
    (.seq (.seq (.reg [] [⟨some 17, (.move (.tmp 8)), 27, none⟩,
      ⟨some 18, (.binOp .neq 27 (.tmp 17) (.const (.int .i64 0)) 27), 4, none⟩])
    (.cond (.tmp 18)
    (.seq (.reg [] [⟨some 19, (.move (.tmp 8)), 27, none⟩,
      ⟨some 4, (.assign (.const (.int .i64 0))), 3, none⟩,
      ⟨some 5, (.assign (.const (.bool false))), 4, none⟩,
      ⟨some 6, (.assign (.tmp 19)), 27, none⟩])
    .ret)
    .skip))
    (.seq (.reg [] [⟨some 21, (.load 56 (.tmp 7)), 56, none⟩,
      ⟨some 22, (.call ⟨(.value (.func 42)), #[(.tmp 21)], #[56]⟩), 53, none⟩,
      ⟨some 20, (.move (.tmp 22)), 53, none⟩,
      ⟨some 23, (.extract (.tmp 20) 0), 3, none⟩,
      ⟨some 24, (.extract (.tmp 20) 1), 4, none⟩,
      ⟨some 9, (.assign (.tmp 23)), 3, none⟩,
      ⟨some 10, (.assign (.tmp 24)), 4, none⟩])
    (.seq (.reg [] [⟨some 25, (.move (.tmp 9)), 3, none⟩,
      ⟨some 26, (.move (.tmp 10)), 4, none⟩,
      ⟨some 4, (.assign (.tmp 25)), 3, none⟩,
      ⟨some 5, (.assign (.tmp 26)), 4, none⟩,
      ⟨some 6, (.assign (.const (.int .i64 0))), 27, none⟩])
    .ret)))))
theorem C14 {args : List AV} {r : AV} (hn : args.length ≤ 27) (h : vc Tryz.prog T [] A14 (Fin T [(.tmp 4), (.tmp 5), (.tmp 6)] r) ⟨envOf 0 args, []⟩) : CallP Tryz.prog 14 args r :=
  callP_of tok mixed Tryz.func14 (by kernel_rfl) (by kernel_rfl) (by kernel_rfl : Tryz.f14.ntmps = 27) (by kernel_rfl : Tryz.f14.body.bind (strip 27 (fun _ => [])) = some A14) hn h
def A12 : ACode :=
  (.seq (.reg [] [⟨some 4, (.assign (.const (.bool false))), 4, none⟩,
      ⟨some 5, (.assign (.const (.int .i64 0))), 27, none⟩])
    (.seq (.reg [] [⟨some 10, (.move (.tmp 0)), 22, none⟩,
      ⟨some 11, (.move (.tmp 1)), 23, none⟩,
      ⟨some 12, (.call ⟨(.value (.func 14)), #[(.tmp 10), (.tmp 11)], #[22, 23]⟩), 30, none⟩,
      ⟨some 9, (.move (.tmp 12)), 30, none⟩,
      ⟨some 13, (.extract (.tmp 9) 0), 3, none⟩,
      ⟨some 14, (.extract (.tmp 9) 1), 4, none⟩,
      ⟨some 15, (.extract (.tmp 9) 2), 27, none⟩,
      ⟨some 6, (.assign (.tmp 13)), 3, none⟩,
      ⟨some 7, (.assign (.tmp 14)), 4, none⟩,
      ⟨some 8, (.assign (.tmp 15)), 27, none⟩])
    (.seq (.reg [] [⟨some 16, (.move (.tmp 8)), 27, none⟩,
      ⟨some 17, (.binOp .eql 27 (.tmp 16) (.const (.int .i64 0)) 27), 4, none⟩,
      ⟨some 18, (.move (.tmp 17)), 4, none⟩,
      ⟨some 19, (.move (.tmp 7)), 4, some (18, true)⟩,
      ⟨some 20, (.unOp .not 4 (.tmp 19)), 4, some (18, true)⟩,
      ⟨some 21, (.pick (.tmp 18) (.tmp 20) (.const (.bool false))), 4, none⟩,
      ⟨some 22, (.move (.tmp 8)), 27, none⟩,
      ⟨some 4, (.assign (.tmp 21)), 4, none⟩,
      ⟨some 5, (.assign (.tmp 22)), 27, none⟩])
    .ret)))
theorem C12 {args : List AV} {r : AV} (hn : args.length ≤ 23) (h : vc Tryz.prog T [] A12 (Fin T [(.tmp 4), (.tmp 5)] r) ⟨envOf 0 args, []⟩) : CallP Tryz.prog 12 args r :=
  callP_of tok mixed Tryz.func12 (by kernel_rfl) (by kernel_rfl) (by kernel_rfl : Tryz.f12.ntmps = 23) (by kernel_rfl : Tryz.f12.body.bind (strip 23 (fun _ => [])) = some A12) hn h
def A3 : ACode :=
  (.seq (.reg [] [⟨some 4, (.assign (.const (.bool false))), 4, none⟩])
    (.seq (.seq (.reg [] [⟨some 15, (.move (.tmp 0)), 22, none⟩,
      ⟨some 16, (.call ⟨(.value (.func 8)), #[(.tmp 15)], #[22]⟩), 4, none⟩,
      ⟨some 17, (.move (.tmp 16)), 4, none⟩,
      ⟨some 18, (.move (.tmp 1)), 23, some (17, false)⟩,
      ⟨some 19, (.call ⟨(.value (.func 9)), #[(.tmp 18)], #[23]⟩), 4, some (17, false)⟩,
      ⟨some 20, (.pick (.tmp 17) (.const (.bool true)) (.tmp 19)), 4, none⟩])
    (.cond (.tmp 20)
    (.seq (.reg [] [⟨some 21, (.call ⟨(.value (.func 10)), #[], #[]⟩), 4, none⟩,
      ⟨some 4, (.assign (.tmp 21)), 4, none⟩])
    .ret)
    .skip))
    (.seq (.reg [] [⟨some 23, (.move (.tmp 0)), 22, none⟩,
      ⟨some 24, (.move (.tmp 1)), 23, none⟩,
      ⟨some 25, (.call ⟨(.value (.func 11)), #[(.tmp 23), (.tmp 24)], #[22, 23]⟩), 28, none⟩,
      ⟨some 22, (.move (.tmp 25)), 28, none⟩,
      ⟨some 26, (.extract (.tmp 22) 0), 4, none⟩,
      ⟨some 27, (.extract (.tmp 22) 1), 27, none⟩,
      ⟨some 5, (.assign (.tmp 26)), 4, none⟩,
      ⟨some 6, (.assign (.tmp 27)), 27, none⟩])
    (.seq (.reg [] [⟨some 29, (.move (.tmp 0)), 22, none⟩,
      ⟨some 30, (.move (.tmp 1)), 23, none⟩,
      ⟨some 31, (.call ⟨(.value (.func 12)), #[(.tmp 29), (.tmp 30)], #[22, 23]⟩), 28, none⟩,
      ⟨some 28, (.move (.tmp 31)), 28, none⟩,
      ⟨some 32, (.extract (.tmp 28) 0), 4, none⟩,
      ⟨some 33, (.extract (.tmp 28) 1), 27, none⟩,
      ⟨some 7, (.assign (.tmp 32)), 4, none⟩,
      ⟨some 8, (.assign (.tmp 33)), 27, none⟩])
    (.seq (.reg [] [⟨some 35, (.move (.tmp 0)), 22, none⟩,
      ⟨some 36, (.move (.tmp 1)), 23, none⟩,
      ⟨some 37, (.call ⟨(.value (.func 13)), #[(.tmp 35), (.tmp 36)], #[22, 23]⟩), 30, none⟩,
      ⟨some 34, (.move (.tmp 37)), 30, none⟩,
      ⟨some 38, (.extract (.tmp 34) 0), 3, none⟩,
      ⟨some 39, (.extract (.tmp 34) 1), 4, none⟩,
      ⟨some 40, (.extract (.tmp 34) 2), 27, none⟩,
      ⟨some 9, (.assign (.tmp 38)), 3, none⟩,
      ⟨some 10, (.assign (.tmp 39)), 4, none⟩,
      ⟨some 11, (.assign (.tmp 40)), 27, none⟩])
    (.seq (.reg [] [⟨some 42, (.move (.tmp 0)), 22, none⟩,
      ⟨some 43, (.move (.tmp 1)), 23, none⟩,
      ⟨some 44, (.call ⟨(.value (.func 14)), #[(.tmp 42), (.tmp 43)], #[22, 23]⟩), 30, none⟩,
      ⟨some 41, (.move (.tmp 44)), 30, none⟩,
      ⟨some 45, (.extract (.tmp 41) 0), 3, none⟩,
      ⟨some 46, (.extract (.tmp 41) 1), 4, none⟩,
      ⟨some 47, (.extract (.tmp 41) 2), 27, none⟩,
      ⟨some 12, (.assign (.tmp 45)), 3, none⟩,
      ⟨some 13, (.assign (.tmp 46)), 4, none⟩,
      ⟨some 14, (.assign (.tmp 47)), 27, none⟩])
    (.seq (.reg [] [⟨some 48, (.move (.tmp 5)), 4, none⟩,
      ⟨some 49, (.move (.tmp 7)), 4, none⟩,
      ⟨some 50, (.binOp .eql 4 (.tmp 48) (.tmp 49) 4), 4, none⟩,
      ⟨some 51, (.move (.tmp 50)), 4, none⟩,
      ⟨some 52, (.move (.tmp 6)), 27, some (51, true)⟩,
      ⟨some 53, (.move (.tmp 8)), 27, some (51, true)⟩,
      ⟨some 54, (.binOp .eql 27 (.tmp 52) (.tmp 53) 27), 4, some (51, true)⟩,
      ⟨some 55, (.pick (.tmp 51) (.tmp 54) (.const (.bool false))), 4, none⟩,
      ⟨some 56, (.move (.tmp 55)), 4, none⟩,
      ⟨some 57, (.move (.tmp 9)), 3, some (56, true)⟩,
      ⟨some 58, (.move (.tmp 12)), 3, some (56, true)⟩,
      ⟨some 59, (.binOp .eql 3 (.tmp 57) (.tmp 58) 3), 4, some (56, true)⟩,
      ⟨some 60, (.pick (.tmp 56) (.tmp 59) (.const (.bool false))), 4, none⟩,
      ⟨some 61, (.move (.tmp 60)), 4, none⟩,
      ⟨some 62, (.move (.tmp 10)), 4, some (61, true)⟩,
      ⟨some 63, (.move (.tmp 13)), 4, some (61, true)⟩,
      ⟨some 64, (.binOp .eql 4 (.tmp 62) (.tmp 63) 4), 4, some (61, true)⟩,
      ⟨some 65, (.pick (.tmp 61) (.tmp 64) (.const (.bool false))), 4, none⟩,
      ⟨some 66, (.move (.tmp 65)), 4, none⟩,
      ⟨some 67, (.move (.tmp 11)), 27, some (66, true)⟩,
      ⟨some 68, (.move (.tmp 14)), 27, some (66, true)⟩,
      ⟨some 69, (.binOp .eql 27 (.tmp 67) (.tmp 68) 27), 4, some (66, true)⟩,
      ⟨some 70, (.pick (.tmp 66) (.tmp 69) (.const (.bool false))), 4, none⟩,
      ⟨some 71, (.move (.tmp 70)), 4, none⟩,
      ⟨some 72, (.move (.tmp 6)), 27, some (71, true)⟩,
      ⟨some 73, (.binOp .neq 27 (.tmp 72) (.const (.int .i64 0)) 27), 4, some (71, true)⟩,
      ⟨some 74, (.move (.tmp 73)), 4, some (71, true)⟩,
      ⟨some 75, (.move (.tmp 5)), 4, some (74, false)⟩,
      ⟨some 76, (.move (.tmp 10)), 4, some (74, false)⟩,
      ⟨some 77, (.binOp .neq 4 (.tmp 75) (.tmp 76) 4), 4, some (74, false)⟩,
      ⟨some 78, (.pick (.tmp 74) (.const (.bool true)) (.tmp 77)), 4, some (71, true)⟩,
      ⟨some 79, (.pick (.tmp 71) (.tmp 78) (.const (.bool false))), 4, none⟩,
      ⟨some 80, (.move (.tmp 79)), 4, none⟩,
      ⟨some 81, (.call ⟨(.value (.func 10)), #[], #[]⟩), 4, some (80, true)⟩,
      ⟨some 82, (.pick (.tmp 80) (.tmp 81) (.const (.bool false))), 4, none⟩,
      ⟨some 4, (.assign (.tmp 82)), 4, none⟩])
    .ret)))))))
theorem C3 {args : List AV} {r : AV} (hn : args.length ≤ 83) (h : vc Tryz.prog T [] A3 (Fin T [(.tmp 4)] r) ⟨envOf 0 args, []⟩) : CallP Tryz.prog 3 args r :=
  callP_of tok mixed Tryz.func3 (by kernel_rfl) (by kernel_rfl) (by kernel_rfl : Tryz.f3.ntmps = 83) (by kernel_rfl : Tryz.f3.body.bind (strip 83 (fun _ => [])) = some A3) hn h

end Go.Proofs.YtaooenmkofjafaaGreat
end

section
/- Contracts: the reference's longest walk. -/
namespace Go.Proofs.YtaooenmkofjafaaGreat
open Go.Abs Go
set_option maxRecDepth 20000
set_option maxHeartbeats 2000000
attribute [local irreducible] PreK CondK CallK CallG CallX LoopK
attribute [local simp] avsEq avEq akind teq vkind vEq

theorem relsM_cons (a : List Int × Int × Bool) (e : Nat × Nat) (l : List (Nat × Nat)) : relsM a (e :: l) = relsM (relM a e) l := rfl
/-- What the loops know of the graph. -/
structure RowsOK (g : RG) : Prop where
  num : g.ws.length ≤ 300
  len : g.nx.length = g.ws.length
  row : ∀ j, j < g.nx.length → (el g.nx j).length ≤ 54
  lt : ∀ j, j < g.nx.length → ∀ q, q < (el g.nx j).length → 0 ≤ el (el g.nx j) q ∧ el (el g.nx j) q < g.ws.length
theorem rowsOK_of {s : List Rule} {w : Word} {g : RG} (hs : sysErr s = 0) (h : rreachG s w = some g) (hok : g.ok) : RowsOK g := by
  obtain ⟨_, _, h3, h4⟩ := rclosed h
  refine ⟨hok.num, h3, fun j hj => ?_, fun j hj q hq => ?_⟩
  · have hj2 : j < g.ws.length := by omega
    have h5 := (h4 j hj2).1
    have h6 := insA_len (nxP s (el g.ws j)) []
    have h7 := movesM_len hs (hok.fine _ (el_mem_of g.ws j hj2))
    have h8 : (nxP s (el g.ws j)).length = (movesM s (el g.ws j)).length := by simp [nxP]
    unfold nxR at h5
    simp only [List.length_nil] at h6
    omega
  · have hj2 : j < g.ws.length := by omega
    obtain ⟨a1, a2⟩ := h4 j hj2
    obtain ⟨k, k1, k2, _⟩ := a2 q (by omega)
    omega
theorem rlongest_c (g : RG) (h : RowsOK g) : CallP Tryz.prog 42 [rgraphV g] (.tup [iv (rLongestG g).1, bv (rLongestG g).2]) := by
  refine C42 (by simp) ?_
  have hnum := h.num
  have hlen := h.len
  have hE : (edgesF 0 g.nx).length ≤ 300 * 54 := by
    have h1 := edgesF_len (r := g.nx) (i := 0) (M := 54) fun l hl => by
      obtain ⟨q, hq, rfl⟩ := List.getElem_of_mem hl
      have := h.row q hq
      rwa [el_eq _ q hq] at this
    have h2 : g.nx.length * 54 ≤ 300 * 54 := Nat.mul_le_mul_right 54 (by omega)
    omega
  generalize hes : edgesF 0 g.nx = es at hE
  unfold rLongestG
  rw [hes]
  generalize hR : relN es (g.ws.length + 1) (List.replicate g.ws.length 0) 0 = R
  have hz : inB (List.replicate g.ws.length 0) ((0 * es.length : Nat) : Int) := by
    intro k
    have : el (List.replicate g.ws.length (0 : Int)) k = 0 := by
      by_cases hk : k < g.ws.length
      · rw [el_eq _ _ (by simpa using hk)]; simp
      · unfold el
        rw [List.getD_eq_getElem?_getD, List.getElem?_eq_none (by simp; omega)]; rfl
    rw [this]; omega
  simp [A42, rgraphV]
  repeat (refine PreK.intro (by first | omega | (intros; first | omega | (refine ⟨by omega, ?_⟩; simp_all; done) | (simp_all; done) | (simp_all; omega))) fun _ => ?_; (try simp ))
  refine LoopK.by (ι := Nat × List Int × Int) (fun x => ⟨[(6, iv x.1), (5, iv x.2.2), (4, .sl 14 1 0 g.ws.length), (1, .pt 1 1 0 0)], [(1, some ⟨3, [rgraphV g], 1, true⟩), (14, some ⟨1, x.2.1.map iv, 1, false⟩)]⟩) (fun x => g.ws.length + 1 - x.1)
    (fun x => x.1 ≤ g.ws.length + 1 ∧ x.2.1.length = g.ws.length ∧ inB x.2.1 ((x.1 * es.length : Nat) : Int) ∧ relN es (g.ws.length + 1 - x.1) x.2.1 x.2.2 = R) (0, List.replicate g.ws.length 0, 0) ⟨by dsimp only; omega, by simp, hz, by simpa using hR⟩ (by simp [rgraphV]) ?_
  intro ⟨k, o, b⟩ Q' ⟨hk, ho, hb, hc⟩ hq he hr
  dsimp only at hk ho hb hc
  simp only [rgraphV]
  repeat (refine PreK.intro (by first | omega | (intros; first | omega | (refine ⟨by omega, ?_⟩; simp_all; done) | (simp_all; done) | (simp_all; omega))) fun _ => ?_; (try simp ))
  refine CondK.intro (fun h1 => ?_) (fun h1 => ?_)
  · simp at h1
    rw [show g.ws.length + 1 - k = (g.ws.length - k) + 1 by omega, relN] at hc
    have hKL : k * es.length ≤ 301 * (300 * 54) := Nat.mul_le_mul (by omega) hE
    have hKL1 : (k + 1) * es.length = k * es.length + es.length := Nat.succ_mul _ _
    generalize k * es.length = KL at hb hKL hKL1
    generalize hRR : relsM (o, b, false) es = RR at hc
    repeat (refine PreK.intro (by first | omega | (intros; first | omega | (refine ⟨by omega, ?_⟩; simp_all; done) | (simp_all; done) | (simp_all; omega))) fun _ => ?_; (try simp ))
    refine LoopK.by (ι := Nat × List Int × Int × Bool) (fun x => ⟨[(8, iv x.1), (7, bv x.2.2.2), (6, iv k), (5, iv x.2.2.1), (4, .sl 14 1 0 g.ws.length), (1, .pt 1 1 0 0)], [(1, some ⟨3, [rgraphV g], 1, true⟩), (14, some ⟨1, x.2.1.map iv, 1, false⟩)]⟩) (fun x => g.ws.length - x.1)
      (fun x => x.1 ≤ g.ws.length ∧ x.2.1.length = g.ws.length ∧ (edgesF x.1 (g.nx.drop x.1)).length ≤ es.length ∧ inB x.2.1 ((KL + (es.length - (edgesF x.1 (g.nx.drop x.1)).length) : Nat) : Int) ∧ relsM x.2 (edgesF x.1 (g.nx.drop x.1)) = RR) (0, o, b, false)
      ⟨Nat.zero_le _, ho, by simp [hes], by simpa [hes] using hb, by simpa [hes] using hRR⟩ (by simp [rgraphV]) ?_
    intro ⟨i, a, b1, c1⟩ Q2 ⟨hi, ha, hel, hab, hrel⟩ hq2 he2 hr2
    dsimp only at hi ha hel hab hrel
    simp only [rgraphV]
    repeat (refine PreK.intro (by first | omega | (intros; first | omega | (refine ⟨by omega, ?_⟩; simp_all; done) | (simp_all; done) | (simp_all; omega))) fun _ => ?_; (try simp ))
    refine CondK.intro (fun h2 => ?_) (fun h2 => ?_)
    · simp at h2
      have h2n : i < g.nx.length := by omega
      have hrow := h.row i h2n
      have hrlt := h.lt i h2n
      rw [drop_cons g.nx i h2n, edgesF] at hel hab hrel
      generalize hrw : el g.nx i = row at hel hab hrel hrow hrlt
      generalize htl : edgesF (i + 1) (g.nx.drop (i + 1)) = tl at hel hab hrel
      repeat (refine PreK.intro (by first | omega | (intros; first | omega | (refine ⟨by omega, ?_⟩; simp_all; done) | (simp_all; done) | (simp_all; omega))) fun _ => ?_; (try simp ))
      refine LoopK.by (ι := Nat × List Int × Int × Bool) (fun x => ⟨[(9, iv x.1), (8, iv i), (7, bv x.2.2.2), (6, iv k), (5, iv x.2.2.1), (4, .sl 14 1 0 g.ws.length), (1, .pt 1 1 0 0)], [(1, some ⟨3, [rgraphV g], 1, true⟩), (14, some ⟨1, x.2.1.map iv, 1, false⟩)]⟩) (fun x => row.length - x.1)
        (fun x => x.1 ≤ row.length ∧ x.2.1.length = g.ws.length ∧ (rowE i (row.drop x.1) ++ tl).length ≤ es.length ∧ inB x.2.1 ((KL + (es.length - (rowE i (row.drop x.1) ++ tl).length) : Nat) : Int) ∧ relsM x.2 (rowE i (row.drop x.1) ++ tl) = RR) (0, a, b1, c1)
        ⟨Nat.zero_le _, ha, by simpa using hel, by simpa using hab, by simpa using hrel⟩ (by simp [rgraphV]) ?_
      intro ⟨q, a2, b2, c2⟩ Q3 ⟨hq4, ha2, hel2, hab2, hrel2⟩ hq3 he3 hr3
      dsimp only at hq4 ha2 hel2 hab2 hrel2
      simp only [rgraphV]
      repeat (refine PreK.intro (by first | omega | (intros; first | omega | (refine ⟨by omega, ?_⟩; simp_all; done) | (simp_all; done) | (simp_all; omega))) fun _ => ?_; (try simp [h2, h2n, hrw]))
      refine CondK.intro (fun h3 => ?_) (fun h3 => ?_)
      · simp at h3
        obtain ⟨j0, jN⟩ := hrlt q h3
        rw [drop_cons row q h3] at hel2 hab2 hrel2
        have e1 : rowE i (el row q :: row.drop (q + 1)) ++ tl = (i, (el row q).toNat) :: (rowE i (row.drop (q + 1)) ++ tl) := rfl
        rw [e1] at hel2 hab2 hrel2
        rw [relsM_cons] at hrel2
        generalize hrest : rowE i (row.drop (q + 1)) ++ tl = rest at hel2 hab2 hrel2
        simp only [List.length_cons] at hel2 hab2
        have jN2 : (el row q).toNat < g.ws.length := by omega
        have hjl : (el row q).toNat < a2.length := by omega
        have hil : i < a2.length := by omega
        have hib := hab2 i
        have hin := relM_inB (b := b2) (c := c2) (e := (i, (el row q).toNat)) hab2 hjl
        have eB : ((KL + (es.length - (rest.length + 1)) : Nat) : Int) + 1 = ((KL + (es.length - rest.length) : Nat) : Int) := by omega
        rw [eB] at hin
        have hrl : (relM (a2, b2, c2) (i, (el row q).toNat)).1.length = a2.length := relM_len _ _
        repeat (refine PreK.intro (by first | omega | (intros; first | omega | (refine ⟨by omega, ?_⟩; simp_all; done) | (simp_all; done) | (simp_all; omega))) fun _ => ?_; (try simp [h2, h2n, hrw, h3, j0, jN, jN2, hjl, hil, ha2]))
        refine CondK.intro (fun h4 => ?_) (fun h4 => ?_)
        · simp at h4
          have hrm : relM (a2, b2, c2) (i, (el row q).toNat) = (a2.set (el row q).toNat (el a2 i + 1), (if b2 < el a2 i + 1 then el a2 i + 1 else b2), true) := by
            unfold relM
            rw [if_pos (by exact h4)]
            have : max b2 (el a2 i + 1) = if b2 < el a2 i + 1 then el a2 i + 1 else b2 := by split <;> omega
            dsimp only
            rw [this]
          rw [hrm] at hrel2 hin hrl
          dsimp only at hin hrl
          have hns : nth ((List.map iv a2).set (el row q).toNat (AV.raw (Value.int IntKind.i64 (el a2 i + 1)))) (el row q).toNat = AV.raw (Value.int IntKind.i64 (el a2 i + 1)) := by
            unfold nth
            rw [List.getD_eq_getElem?_getD, List.getElem?_set_self (by simpa using hjl)]; rfl
          repeat (refine PreK.intro (by first | omega | (intros; first | omega | (refine ⟨by omega, ?_⟩; simp_all; done) | (simp_all; done) | (simp_all; omega))) fun _ => ?_; (try simp [h2, h2n, hrw, h3, j0, jN, jN2, hjl, hil, ha2, hns]))
          refine hq3 (q + 1, a2.set (el row q).toNat (el a2 i + 1), (if b2 < el a2 i + 1 then el a2 i + 1 else b2), true) _ ⟨by dsimp only; omega, by dsimp only; omega, by dsimp only; rw [hrest]; omega, by dsimp only; rw [hrest]; exact hin, by dsimp only; rw [hrest]; exact hrel2⟩ (by dsimp only; omega) ?_
          simp [rgraphV, hjl, hil, ha2]
        · simp at h4
          have hrm : relM (a2, b2, c2) (i, (el row q).toNat) = (a2, b2, c2) := by
            unfold relM
            rw [if_neg (by dsimp only; omega)]
          rw [hrm] at hrel2 hin
          dsimp only at hin
          repeat (refine PreK.intro (by first | omega | (intros; first | omega | (refine ⟨by omega, ?_⟩; simp_all; done) | (simp_all; done) | (simp_all; omega))) fun _ => ?_; (try simp ))
          exact hq3 (q + 1, a2, b2, c2) _ ⟨by dsimp only; omega, ha2, by dsimp only; rw [hrest]; omega, by dsimp only; rw [hrest]; exact hin, by dsimp only; rw [hrest]; exact hrel2⟩ (by dsimp only; omega) (by simp [rgraphV])
      · simp at h3
        rw [List.drop_eq_nil_of_le (by omega)] at hel2 hab2 hrel2
        simp only [rowE, List.map_nil, List.nil_append] at hel2 hab2 hrel2
        try simp 
        apply he3
        repeat (refine PreK.intro (by first | omega | (intros; first | omega | (refine ⟨by omega, ?_⟩; simp_all; done) | (simp_all; done) | (simp_all; omega))) fun _ => ?_; (try simp ))
        exact hq2 (i + 1, a2, b2, c2) _ ⟨by dsimp only; omega, ha2, by simpa [htl] using hel2, by simpa [htl] using hab2, by simpa [htl] using hrel2⟩ (by dsimp only; omega) (by simp [rgraphV])
    · simp at h2
      rw [List.drop_eq_nil_of_le (by omega), edgesF] at hel hab hrel
      simp only [relsM] at hrel
      subst hrel
      try simp 
      apply he2
      repeat (refine PreK.intro (by first | omega | (intros; first | omega | (refine ⟨by omega, ?_⟩; simp_all; done) | (simp_all; done) | (simp_all; omega))) fun _ => ?_; (try simp ))
      cases c1
      · simp only [Bool.false_eq_true, if_false] at hc
        refine CondK.intro (fun h5 => ?_) (fun h5 => ?_)
        · try simp 
          apply hr
          simp [← hc]
        · cases h5
      · simp only [if_true] at hc
        refine CondK.intro (fun h5 => ?_) (fun h5 => ?_)
        · cases h5
        · repeat (refine PreK.intro (by first | omega | (intros; first | omega | (refine ⟨by omega, ?_⟩; simp_all; done) | (simp_all; done) | (simp_all; omega))) fun _ => ?_; (try simp ))
          refine hq (k + 1, a, b1) _ ⟨by dsimp only; omega, ha, ?_, by dsimp only; rw [show g.ws.length + 1 - (k + 1) = g.ws.length - k by omega]; exact hc⟩ (by dsimp only; omega) (by simp [rgraphV])
          dsimp only
          rw [hKL1]
          simpa using hab
  · simp at h1
    rw [show g.ws.length + 1 - k = 0 by omega, relN] at hc
    try simp 
    apply he
    simp [← hc]
end Go.Proofs.YtaooenmkofjafaaGreat
end

section
/- Contracts: Longest and Forever on both sides; the statement FeedForever. -/
namespace Go.Proofs.YtaooenmkofjafaaGreat
open Go.Abs Go
set_option maxRecDepth 20000
set_option maxHeartbeats 2000000
attribute [local irreducible] PreK CondK CallK CallG CallX LoopK
attribute [local simp] avsEq avEq akind teq vkind vEq

def rLongestE (s : List Rule) (w : Word) : Int × Bool × Int := if swErr s w ≠ 0 then (0, false, swErr s w) else match rreachG s w with
  | none => (0, false, 3)
  | some g => ((rLongestG g).1, (rLongestG g).2, 0)
theorem longest_same (s : List Rule) (w : Word) : rLongestE s w = LongestE s w := by
  unfold rLongestE LongestE
  by_cases h0 : swErr s w = 0
  · rw [if_neg (by simp [h0]), if_neg (by simp [h0])]
    have h := graphs_same s w
    cases hg : reachG s w with
    | none =>
      cases hr : rreachG s w with
      | none => rfl
      | some r => rw [hg, hr] at h; exact h.elim
    | some g =>
      cases hr : rreachG s w with
      | none => rw [hg, hr] at h; exact h.elim
      | some r =>
        have h1 := longestG_spec hg (reachG_ok h0 hg)
        have h2 := rlongestG_spec hr
        obtain ⟨e1, e2⟩ := h1.same h2
        dsimp only
        rw [e1, e2]
  · rw [if_pos h0, if_pos h0]
theorem rLongest_c (s : List Rule) (w : List Int) (h : Sys.small s) (hw : w.length ≤ 1000) : CallP Tryz.prog 14 [rulesV s, ints w] (.tup [iv (rLongestE s w).1, bv (rLongestE s w).2.1, iv (rLongestE s w).2.2]) := by
  refine C14 (by simp) ?_
  have hgc := graphed_c s w h hw
  unfold rgraphedV at hgc
  unfold rLongestE
  by_cases h0 : swErr s w = 0
  · simp only [h0, ne_eq, not_true_eq_false, if_false] at hgc ⊢
    cases hg : rreachG s w with
    | none =>
      rw [hg] at hgc
      simp only [rzeroV] at hgc
      simp [A14]
      try simp 
      repeat' (first
        | (refine CallX.pure (hgc) (by simp) (by simp) ?_; try simp )
        | (refine CallK.intro (hgc) (by simp) (by simp) ?_; try simp )
        | (refine CallG.intro (fun _ => hgc) (by simp) (by simp) ?_; try simp )
        | ((with_reducible refine PreK.intro ?_ ?_); (next => (first | omega | (intros; first | omega | (refine ⟨by omega, ?_⟩; repeat (first | assumption | constructor)) | assumption))); intro _; try simp )
        | fail)
      refine CondK.intro (fun h2 => ?_) (fun h2 => ?_)
      · try simp 
        repeat' (first
          | ((with_reducible refine PreK.intro ?_ ?_); (next => (first | omega | (intros; first | omega | (refine ⟨by omega, ?_⟩; repeat (first | assumption | constructor)) | assumption))); intro _; try simp )
          | fail)
      · simp at h2
    | some g =>
      rw [hg] at hgc
      have hl := rlongest_c g (rowsOK_of (swErr_zero h0).1 hg (rreachG_ok h0 hg))
      dsimp only
      generalize rLongestG g = L at hl ⊢
      simp only [rgraphV] at hgc hl
      simp [A14]
      try simp 
      repeat' (first
        | (refine CallX.pure (hgc) (by simp) (by simp) ?_; try simp )
        | (refine CallK.intro (hgc) (by simp) (by simp) ?_; try simp )
        | (refine CallG.intro (fun _ => hgc) (by simp) (by simp) ?_; try simp )
        | ((with_reducible refine PreK.intro ?_ ?_); (next => (first | omega | (intros; first | omega | (refine ⟨by omega, ?_⟩; repeat (first | assumption | constructor)) | assumption))); intro _; try simp )
        | fail)
      refine CondK.intro (fun h2 => ?_) (fun h2 => ?_)
      · simp at h2
      · try simp 
        repeat' (first
          | (refine CallX.pure (hl) (by simp) (by simp) ?_; try simp )
          | (refine CallK.intro (hl) (by simp) (by simp) ?_; try simp )
          | (refine CallG.intro (fun _ => hl) (by simp) (by simp) ?_; try simp )
          | ((with_reducible refine PreK.intro ?_ ?_); (next => (first | omega | (intros; first | omega | (refine ⟨by omega, ?_⟩; repeat (first | assumption | constructor)) | assumption))); intro _; try simp )
          | fail)
  · simp only [h0, ne_eq, not_false_eq_true, if_true] at hgc ⊢
    simp only [rzeroV] at hgc
    simp [A14]
    try simp 
    repeat' (first
      | (refine CallX.pure (hgc) (by simp) (by simp) ?_; try simp )
      | (refine CallK.intro (hgc) (by simp) (by simp) ?_; try simp )
      | (refine CallG.intro (fun _ => hgc) (by simp) (by simp) ?_; try simp )
      | ((with_reducible refine PreK.intro ?_ ?_); (next => (first | omega | (intros; first | omega | (refine ⟨by omega, ?_⟩; repeat (first | assumption | constructor)) | assumption))); intro _; try simp )
      | fail)
    refine CondK.intro (fun h2 => ?_) (fun h2 => ?_)
    · try simp 
      repeat' (first
        | ((with_reducible refine PreK.intro ?_ ?_); (next => (first | omega | (intros; first | omega | (refine ⟨by omega, ?_⟩; repeat (first | assumption | constructor)) | assumption))); intro _; try simp )
        | fail)
    · simp at h2
      exact absurd h2 h0
def ForeverE (s : List Rule) (w : Word) : Bool × Int := (decide ((LongestE s w).2.2 = 0) && !(LongestE s w).2.1, (LongestE s w).2.2)
theorem rForever_c (s : List Rule) (w : List Int) (h : Sys.small s) (hw : w.length ≤ 1000) : CallP Tryz.prog 12 [rulesV s, ints w] (.tup [bv (ForeverE s w).1, iv (ForeverE s w).2]) := by
  refine C12 (by simp) ?_
  have hl := rLongest_c s w h hw
  rw [longest_same] at hl
  unfold ForeverE
  generalize LongestE s w = L at hl
  obtain ⟨n, ok, e⟩ := L
  dsimp only at hl ⊢
  simp [A12]
  try simp 
  repeat' (first
    | (refine CallX.pure (hl) (by simp) (by simp) ?_; try simp )
    | (refine CallK.intro (hl) (by simp) (by simp) ?_; try simp )
    | (refine CallG.intro (fun _ => hl) (by simp) (by simp) ?_; try simp )
    | ((with_reducible refine PreK.intro ?_ ?_); (next => (first | omega | (intros; first | omega | (refine ⟨by omega, ?_⟩; repeat (first | assumption | constructor)) | assumption))); intro _; try simp )
    | fail)
theorem Forever_c (s : List Rule) (w : List Int) (h : Sys.small s) (hw : w.length ≤ 1000) : CallP Tryz.prog 11 [rulesV s, ints w] (.tup [bv (ForeverE s w).1, iv (ForeverE s w).2]) := by
  refine C11 (by simp) ?_
  have hrc := reached_c s w h hw
  by_cases h1 : swErr s w = 0
  · have e1 : reachedV s w = reachV s (reachG s w) := by simp [reachedV, h1]
    rw [e1] at hrc
    cases hg : reachG s w with
    | none =>
      rw [hg] at hrc
      have e2 : ForeverE s w = (false, 3) := by simp [ForeverE, LongestE, h1, hg]
      rw [e2]
      simp only [reachV] at hrc
      simp [A11]
      try simp 
      repeat' (first
        | (refine CallX.pure (hrc) (by simp) (by simp) ?_; try simp )
        | (refine CallK.intro (hrc) (by simp) (by simp) ?_; try simp )
        | (refine CallG.intro (fun _ => hrc) (by simp) (by simp) ?_; try simp )
        | ((with_reducible refine PreK.intro ?_ ?_); (next => (first | omega | (intros; first | omega | (refine ⟨by omega, ?_⟩; repeat (first | assumption | constructor)) | assumption))); intro _; try simp )
        | fail)
      refine CondK.intro (fun h2 => ?_) (fun h2 => ?_)
      · try simp 
        repeat' (first
          | ((with_reducible refine PreK.intro ?_ ?_); (next => (first | omega | (intros; first | omega | (refine ⟨by omega, ?_⟩; repeat (first | assumption | constructor)) | assumption))); intro _; try simp )
          | fail)
      · simp at h2
    | some g =>
      rw [hg] at hrc
      have hec := longest_c s g h (swErr_zero h1).1 (reachG_ok h1 hg) (shut_of hg)
      have e2 : ForeverE s w = (!(LongestG s g).2, 0) := by simp [ForeverE, LongestE, h1, hg]
      rw [e2]
      simp only [reachV, graphV] at hrc
      simp only [graphV] at hec
      generalize LongestG s g = L at hec
      simp [A11]
      try simp 
      repeat' (first
        | (refine CallX.pure (hrc) (by simp) (by simp) ?_; try simp )
        | (refine CallK.intro (hrc) (by simp) (by simp) ?_; try simp )
        | (refine CallG.intro (fun _ => hrc) (by simp) (by simp) ?_; try simp )
        | ((with_reducible refine PreK.intro ?_ ?_); (next => (first | omega | (intros; first | omega | (refine ⟨by omega, ?_⟩; repeat (first | assumption | constructor)) | assumption))); intro _; try simp )
        | fail)
      refine CondK.intro (fun h2 => ?_) (fun h2 => ?_)
      · simp at h2
      · try simp 
        repeat' (first
          | (refine CallX.pure (hec) (by simp) (by simp) ?_; try simp )
          | (refine CallK.intro (hec) (by simp) (by simp) ?_; try simp )
          | (refine CallG.intro (fun _ => hec) (by simp) (by simp) ?_; try simp )
          | ((with_reducible refine PreK.intro ?_ ?_); (next => (first | omega | (intros; first | omega | (refine ⟨by omega, ?_⟩; repeat (first | assumption | constructor)) | assumption))); intro _; try simp )
          | fail)
  · have e1 : reachedV s w = .tup [.raw (.pointer none), iv (swErr s w)] := by simp [reachedV, h1]
    rw [e1] at hrc
    have e2 : ForeverE s w = (false, swErr s w) := by simp [ForeverE, LongestE, h1]
    rw [e2]
    simp [A11]
    try simp 
    repeat' (first
      | (refine CallX.pure (hrc) (by simp) (by simp) ?_; try simp )
      | (refine CallK.intro (hrc) (by simp) (by simp) ?_; try simp )
      | (refine CallG.intro (fun _ => hrc) (by simp) (by simp) ?_; try simp )
      | ((with_reducible refine PreK.intro ?_ ?_); (next => (first | omega | (intros; first | omega | (refine ⟨by omega, ?_⟩; repeat (first | assumption | constructor)) | assumption))); intro _; try simp )
      | fail)
    refine CondK.intro (fun h2 => ?_) (fun h2 => ?_)
    · try simp 
      repeat' (first
        | ((with_reducible refine PreK.intro ?_ ?_); (next => (first | omega | (intros; first | omega | (refine ⟨by omega, ?_⟩; repeat (first | assumption | constructor)) | assumption))); intro _; try simp )
        | fail)
    · simp at h2
      exact absurd h2 h1
theorem lawFeedForever_c (s : List Rule) (w : List Int) (hb : s.length ≤ big) (hwb : w.length ≤ big) : CallP Tryz.prog 3 [rulesV s, ints w] (bv true) := by
  refine C3 (by simp) ?_
  simp [A3]
  refine CallX.pure (by simpa using long3_c s hb) (by simp) (by simp) ?_
  try simp 
  cases hl : longS s
  · have hs := longS_small hl
    by_cases h2 : 100 < w.length
    · try simp 
      repeat' (first
        | (refine CallX.pure (large3_c w) (by simp) (by simp) ?_; try simp )
        | (refine CallK.intro (large3_c w) (by simp) (by simp) ?_; try simp )
        | (refine CallG.intro (fun _ => large3_c w) (by simp) (by simp) ?_; try simp )
        | ((with_reducible refine PreK.intro ?_ ?_); (next => (first | omega | (intros; first | omega | (refine ⟨by omega, ?_⟩; repeat (first | assumption | constructor)) | assumption))); intro _; try simp )
        | fail)
      refine CondK.intro (fun h3 => ?_) (fun h3 => ?_)
      · try simp 
        repeat' (first
          | (refine CallX.pure (known_c) (by simp) (by simp) ?_; try simp )
          | (refine CallK.intro (known_c) (by simp) (by simp) ?_; try simp )
          | (refine CallG.intro (fun _ => known_c) (by simp) (by simp) ?_; try simp )
          | ((with_reducible refine PreK.intro ?_ ?_); (next => (first | omega | (intros; first | omega | (refine ⟨by omega, ?_⟩; repeat (first | assumption | constructor)) | assumption))); intro _; try simp )
          | fail)
      · simp [h2] at h3
    · try simp 
      repeat' (first
        | (refine CallX.pure (large3_c w) (by simp) (by simp) ?_; try simp )
        | (refine CallK.intro (large3_c w) (by simp) (by simp) ?_; try simp )
        | (refine CallG.intro (fun _ => large3_c w) (by simp) (by simp) ?_; try simp )
        | ((with_reducible refine PreK.intro ?_ ?_); (next => (first | omega | (intros; first | omega | (refine ⟨by omega, ?_⟩; repeat (first | assumption | constructor)) | assumption))); intro _; try simp )
        | fail)
      refine CondK.intro (fun h3 => ?_) (fun h3 => ?_)
      · simp [h2] at h3
      · have hw : w.length ≤ 1000 := by omega
        have h4 := Forever_c s w hs hw
        have h5 := rForever_c s w hs hw
        have h6 := Longest_c s w hs hw
        have h7 := rLongest_c s w hs hw
        rw [longest_same] at h7
        unfold ForeverE at h4 h5
        generalize LongestE s w = L at h4 h5 h6 h7
        obtain ⟨n, ok, e⟩ := L
        dsimp only at h4 h5 h6 h7
        by_cases he : e = 0
        · subst he
          simp at h4 h5
          try simp 
          repeat' (first
            | (refine CallX.pure (h4) (by simp) (by simp) ?_; try simp )
            | (refine CallK.intro (h4) (by simp) (by simp) ?_; try simp )
            | (refine CallG.intro (fun _ => h4) (by simp) (by simp) ?_; try simp )
            | (refine CallX.pure (h5) (by simp) (by simp) ?_; try simp )
            | (refine CallK.intro (h5) (by simp) (by simp) ?_; try simp )
            | (refine CallG.intro (fun _ => h5) (by simp) (by simp) ?_; try simp )
            | (refine CallX.pure (h6) (by simp) (by simp) ?_; try simp )
            | (refine CallK.intro (h6) (by simp) (by simp) ?_; try simp )
            | (refine CallG.intro (fun _ => h6) (by simp) (by simp) ?_; try simp )
            | (refine CallX.pure (h7) (by simp) (by simp) ?_; try simp )
            | (refine CallK.intro (h7) (by simp) (by simp) ?_; try simp )
            | (refine CallG.intro (fun _ => h7) (by simp) (by simp) ?_; try simp )
            | (refine CallX.pure (known_c) (by simp) (by simp) ?_; try simp )
            | (refine CallK.intro (known_c) (by simp) (by simp) ?_; try simp )
            | (refine CallG.intro (fun _ => known_c) (by simp) (by simp) ?_; try simp )
            | ((with_reducible refine PreK.intro ?_ ?_); (next => (first | omega | (intros; first | omega | (refine ⟨by omega, ?_⟩; repeat (first | assumption | constructor)) | assumption))); intro _; try simp )
            | fail)
        · simp [he] at h4 h5
          try simp [he]
          repeat' (first
            | (refine CallX.pure (h4) (by simp) (by simp) ?_; try simp [he])
            | (refine CallK.intro (h4) (by simp) (by simp) ?_; try simp [he])
            | (refine CallG.intro (fun _ => h4) (by simp) (by simp) ?_; try simp [he])
            | (refine CallX.pure (h5) (by simp) (by simp) ?_; try simp [he])
            | (refine CallK.intro (h5) (by simp) (by simp) ?_; try simp [he])
            | (refine CallG.intro (fun _ => h5) (by simp) (by simp) ?_; try simp [he])
            | (refine CallX.pure (h6) (by simp) (by simp) ?_; try simp [he])
            | (refine CallK.intro (h6) (by simp) (by simp) ?_; try simp [he])
            | (refine CallG.intro (fun _ => h6) (by simp) (by simp) ?_; try simp [he])
            | (refine CallX.pure (h7) (by simp) (by simp) ?_; try simp [he])
            | (refine CallK.intro (h7) (by simp) (by simp) ?_; try simp [he])
            | (refine CallG.intro (fun _ => h7) (by simp) (by simp) ?_; try simp [he])
            | (refine CallX.pure (known_c) (by simp) (by simp) ?_; try simp [he])
            | (refine CallK.intro (known_c) (by simp) (by simp) ?_; try simp [he])
            | (refine CallG.intro (fun _ => known_c) (by simp) (by simp) ?_; try simp [he])
            | ((with_reducible refine PreK.intro ?_ ?_); (next => (first | omega | (intros; first | omega | (refine ⟨by omega, ?_⟩; repeat (first | assumption | constructor)) | assumption))); intro _; try simp [he])
            | fail)
  · try simp 
    repeat' (first
      | ((with_reducible refine PreK.intro ?_ ?_); (next => (first | omega | (intros; first | omega | (refine ⟨by omega, ?_⟩; repeat (first | assumption | constructor)) | assumption))); intro _; try simp )
      | fail)
    refine CallG.intro (r := bv true) (fun hh => by cases hh) (by simp) (by simp) ?_
    try simp 
    refine CondK.intro (fun h3 => ?_) (fun h3 => ?_)
    · try simp 
      repeat' (first
        | (refine CallX.pure (known_c) (by simp) (by simp) ?_; try simp )
        | (refine CallK.intro (known_c) (by simp) (by simp) ?_; try simp )
        | (refine CallG.intro (fun _ => known_c) (by simp) (by simp) ?_; try simp )
        | ((with_reducible refine PreK.intro ?_ ?_); (next => (first | omega | (intros; first | omega | (refine ⟨by omega, ?_⟩; repeat (first | assumption | constructor)) | assumption))); intro _; try simp )
        | fail)
    · simp at h3
end Go.Proofs.YtaooenmkofjafaaGreat
end
