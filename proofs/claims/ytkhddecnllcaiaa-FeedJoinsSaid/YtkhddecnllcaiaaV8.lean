/- Part 8 of the proof: the value layer and the contracts of the functions that the statement reaches; proved without conditions beyond those each theorem states. -/
import Derived.Test.YtkhddecnllcaiaaV7
set_option linter.unusedSimpArgs false
set_option linter.unusedVariables false

section
/- PURSE -/
/- Contracts: the reference's search. (written by gen/mkrb.py) -/
namespace Go.Proofs.Ytkhddecnllcaiaa
open Go.Abs Go
set_option maxRecDepth 20000
set_option maxHeartbeats 8000000
attribute [local irreducible] PreK CondK CallK CallG CallX LoopK
attribute [local simp] avsEq avEq akind teq vkind vEq

theorem CX103 {args : List AV} {r : AV} (hn : args.length ≤ 82) (h : vc Try.prog T [13, 14] A103 (Fin T [(.cell 4 119), (.tmp 5)] r) ⟨envOf 0 args, []⟩) : CallP Try.prog 103 args r :=
  callP_of tok mixed Try.func103 (by kernel_rfl) (by kernel_rfl) (by kernel_rfl : Try.f103.ntmps = 82) (by kernel_rfl : Try.f103.body.bind (strip 82 (fun _ => [])) = some A103) hn h
theorem find_c (l : List Word) (w : Word) (hl : l.length ≤ 1000) (hs : ∀ x ∈ l, x.length ≤ 1000) : CallP Try.prog 104 [wordsV l, ints w] (iv (findI l w)) := by
  refine C104 (by simp) ?_
  generalize hR : findI l w = R
  unfold findI at hR
  simp [A104]
  refine LoopK.by (fun i : Nat => ⟨[(5, iv i), (0, wordsV l), (1, ints w)], []⟩) (fun i => l.length - i) (fun i => i ≤ l.length ∧ idxG (fun x => decide (x = w)) i (l.drop i) = R) 0 (by simpa using hR) (by simp) ?_
  intro i Q' ⟨hi, hc⟩ hq he hr
  try simp 
  refine CondK.intro (fun h1 => ?_) (fun h1 => ?_)
  · simp at h1
    rw [drop_cons l i h1, idxG] at hc
    try simp [h1]
    repeat' (first
      | (refine CallX.pure (same1_c (el l i) w (big_of (hs _ (el_mem_of l i h1)))) (by simp) (by simp) ?_; try simp [h1])
      | (refine CallK.intro (same1_c (el l i) w (big_of (hs _ (el_mem_of l i h1)))) (by simp) (by simp) ?_; try simp [h1])
      | (refine CallG.intro (fun _ => same1_c (el l i) w (big_of (hs _ (el_mem_of l i h1)))) (by simp) (by simp) ?_; try simp [h1])
      | ((with_reducible refine PreK.intro ?_ ?_); (next => (first | omega | (intros; first | omega | (refine ⟨by omega, ?_⟩; repeat (first | assumption | constructor)) | assumption))); intro _; try simp [h1])
      | fail)
    refine CondK.intro (fun h2 => ?_) (fun h2 => ?_)
    · simp at h2
      rw [if_pos (by simpa using h2)] at hc
      try simp 
      apply hr
      simp [← hc]
    · simp at h2
      rw [if_neg (by simpa using h2)] at hc
      try simp 
      repeat' (first
        | ((with_reducible refine PreK.intro ?_ ?_); (next => (first | omega | (intros; first | omega | (refine ⟨by omega, ?_⟩; repeat (first | assumption | constructor)) | assumption))); intro _; try simp )
        | fail)
      exact hq (i + 1) _ ⟨by omega, hc⟩ (by omega) (by simp)
  · simp at h1
    rw [List.drop_eq_nil_of_le (by omega), idxG] at hc
    try simp 
    apply he
    simp [← hc]
def rzeroV : AV := .agg [.seq 1 [] false, .seq 1 [] false, .seq 1 [] false]
def rgraphV (g : RG) : AV := .agg [wordsV g.ws, .seq 1 (g.nx.map ints) false, ints g.far]
def rreachV : Option RG → AV
  | none => .tup [rzeroV, bv false]
  | some g => .tup [rgraphV g, bv true]
structure RG.ok (g : RG) : Prop where
  fine : ∀ x ∈ g.ws, wordErr x = 0
  num : g.ws.length ≤ 300
  far : g.far.length = g.ws.length
  low : ∀ j, j < g.far.length → 0 ≤ el g.far j ∧ el g.far j ≤ j
theorem RG.ok.push {g : RG} (h : g.ok) {w : Word} {i : Nat} (hw : wordErr w = 0) (hn : g.ws.length < 300) (hi : i < g.ws.length) : RG.ok ⟨g.ws ++ [w], g.nx, g.far ++ [el g.far i + 1]⟩ := by
  have hf := h.far
  refine ⟨fun x hx => ?_, by simp; omega, by simp [hf], fun j hj => ?_⟩
  · rcases List.mem_append.1 hx with hx | hx
    · exact h.fine x hx
    · simp only [List.mem_singleton] at hx
      subst hx; exact hw
  · simp only [List.length_append, List.length_cons, List.length_nil] at hj
    dsimp only
    by_cases hj2 : j < g.far.length
    · rw [el_app_left _ _ hj2]; exact h.low j hj2
    · have : j = g.far.length := by omega
      subst this
      rw [el_app_mid]
      have := h.low i (by omega)
      omega
def rboxT (g : RG) : List (Nat × Option Box) := [(4, some ⟨3, [.agg [.seq 1 [] true, .seq 1 [] true, .seq 1 [] true]], 1, true⟩), (6, some ⟨3, [.agg [.sl 13 g.ws.length 0 g.ws.length, .seq 1 [] true, .sl 14 g.ws.length 0 g.far.length]], 1, true⟩), (13, some ⟨1, g.ws.map ints, g.ws.length, false⟩), (14, some ⟨1, g.far.map iv, g.ws.length, false⟩)]
def rboxF (g : RG) : List (Nat × Option Box) := [(4, some ⟨3, [.agg [.seq 1 [] true, .seq 1 [] true, .seq 1 [] true]], 1, true⟩), (6, some ⟨3, [.agg [.sl 13 g.ws.length 0 g.ws.length, .sl 79 g.nx.length 0 g.nx.length, .sl 14 g.ws.length 0 g.far.length]], 1, true⟩), (13, some ⟨1, g.ws.map ints, g.ws.length, false⟩), (14, some ⟨1, g.far.map iv, g.ws.length, false⟩), (79, some ⟨1, g.nx.map ints, g.nx.length, false⟩)]
attribute [local simp] rboxT rboxF
theorem reached_x (s : List Rule) (w : List Int) (h : Sys.small s) (hs : sysErr s = 0) (hw : wordErr w = 0) : CallP Try.prog 103 [rulesV s, ints w] (rreachV (rreachG s w)) := by
  refine CX103 (by simp) ?_
  generalize hR : rreachG s w = R
  unfold rreachG at hR
  have hok0 : RG.ok ⟨[w], [], [0]⟩ := ⟨by simpa using hw, by simp, rfl, fun j hj => by simp at hj; subst hj; simp [el]⟩
  generalize hg0 : (⟨[w], [], [0]⟩ : RG) = g0 at hR hok0
  have hg1 : g0.nx = [] := by rw [← hg0]
  have hg2 : g0.ws = [w] := by rw [← hg0]
  have hg3 : g0.far = [0] := by rw [← hg0]
  simp [A103]
  refine LoopK.by (ι := Bool × Nat × RG) (fun x => match x with
      | (true, i, g) => ⟨[(7, iv i), (6, .pt 6 1 0 0), (4, .pt 4 1 0 0), (0, rulesV s)], rboxT g⟩
      | (false, i, g) => ⟨[(7, iv i), (6, .pt 6 1 0 0), (4, .pt 4 1 0 0), (0, rulesV s)], rboxF g⟩)
    (fun x => 400 - x.2.1) (fun x => (x.1 = true → x.2.2.nx = []) ∧ x.2.2.ok ∧ x.2.1 ≤ x.2.2.ws.length ∧ x.2.2.nx.length = x.2.1 ∧ rcloseG s (301 - x.2.1) x.2.1 x.2.2 = R) (true, 0, g0) ⟨fun _ => hg1, hok0, by simp, by rw [hg1]; rfl, hR⟩ (by simp [hg2, hg3]) ?_
  intro ⟨kd, i, g⟩ Q' ⟨hkd, hok, hi, hnl, hc⟩ hq he hr
  dsimp only at hkd hok hi hnl hc
  have hnum := hok.num
  have hfl := hok.far
  obtain ⟨n, hn⟩ : ∃ n, 301 - i = n + 1 := ⟨300 - i, by omega⟩
  rw [hn, rcloseG] at hc
  by_cases hi2 : i < g.ws.length
  · rw [if_pos hi2] at hc
    have hui := hok.fine _ (el_mem_of g.ws i hi2)
    have hmc := rnext_c s (el g.ws i) h hs hui
    have hms : ∀ x ∈ nxtR s (el g.ws i), wordErr x = 0 := by
      intro x hx
      unfold nxtR at hx
      rw [(insA_spec _ [] List.Pairwise.nil).2] at hx
      simp only [List.not_mem_nil, false_or] at hx
      obtain ⟨m, hm, rfl⟩ := List.mem_map.1 hx
      exact moves_right hs hui hm
    have hml : (nxtR s (el g.ws i)).length ≤ 54 := by
      have h1 := insA_len ((movesM s (el g.ws i)).map (·.word)) []
      have h2 := movesM_len hs hui
      simp at h1
      unfold nxtR; omega
    have hnr : nxR s (el g.ws i) = nxtR s (el g.ws i) := rfl
    rw [hnr] at hc
    generalize nxtR s (el g.ws i) = ms at hmc hms hml hc
    generalize hRA : raddG (el g.far i + 1) g.ws g.far [] ms = RA at hc
    cases kd
    · try simp 
      refine CondK.intro (fun h1 => ?_) (fun h1 => ?_)
      · try simp 
        try simp [hi2]
        repeat' (first
          | (refine CallX.pure (hmc) (by simp) (by simp) ?_; try simp [hi2])
          | (refine CallK.intro (hmc) (by simp) (by simp) ?_; try simp [hi2])
          | (refine CallG.intro (fun _ => hmc) (by simp) (by simp) ?_; try simp [hi2])
          | ((with_reducible refine PreK.intro ?_ ?_); (next => (first | omega | (intros; first | omega | (refine ⟨by omega, ?_⟩; repeat (first | assumption | constructor)) | assumption))); intro _; try simp [hi2])
          | fail)
        refine LoopK.by (ι := Nat × RG × List Int) (fun x => ⟨[(10, iv x.1), (9, wordsV ms), (8, .sl 8 (x.2.2.length + 1) 0 x.2.2.length), (7, iv i), (6, .pt 6 1 0 0), (4, .pt 4 1 0 0), (0, rulesV s)], (8, some ⟨1, x.2.2.map iv, x.2.2.length + 1, false⟩) :: rboxF x.2.1⟩)
          (fun x => ms.length - x.1) (fun x => x.1 ≤ ms.length ∧ x.2.2.length = x.1 ∧ x.2.1.ok ∧ x.2.1.nx = g.nx ∧ i < x.2.1.ws.length ∧ el x.2.1.far i = el g.far i ∧ raddG (el g.far i + 1) x.2.1.ws x.2.1.far x.2.2 (ms.drop x.1) = RA) (0, g, []) ⟨by simp, rfl, hok, rfl, hi2, rfl, hRA⟩ (by simp) ?_
        intro ⟨k, g', l⟩ Q'' ⟨hk, hkl, hok', hnx, hi3, hfi, ha⟩ hq' he' hr'
        dsimp only at hk hkl hok' hnx hi3 hfi ha
        have hnum' := hok'.num
        have hfl' := hok'.far
        have hfi3 : i < g'.far.length := by omega
        try simp 
        refine CondK.intro (fun h2 => ?_) (fun h2 => ?_)
        · simp at h2
          have h8 := hms _ (el_mem_of ms k h2)
          rw [drop_cons ms k h2, raddG] at ha
          have hfc := find_c g'.ws (el ms k) (by omega) (fun x hx => by have := (wordErr_zero (hok'.fine x hx)).1; omega)
          have hfa := idxG_lt (fun x => decide (x = el ms k)) g'.ws 0
          have hfr : findI g'.ws (el ms k) = idxG (fun x => decide (x = el ms k)) 0 g'.ws := rfl
          have hfb : findI g'.ws (el ms k) = -1 ∨ (0 ≤ findI g'.ws (el ms k) ∧ findI g'.ws (el ms k) < g'.ws.length) := by
            rcases hfa with e | ⟨j, j1, j2, _⟩
            · exact .inl (hfr.trans e)
            · right; rw [hfr, j2]; omega
          try simp [h2]
          repeat (refine PreK.intro (by first | omega | (intros; first | omega | (refine ⟨by omega, ?_⟩; simp_all; done) | (simp_all; done) | (simp_all; omega))) fun _ => ?_; (try simp [h2]))
          refine CallK.intro (by simpa using hfc) (by simp) (by simp) ?_
          try simp [h2]
          repeat (refine PreK.intro (by first | omega | (intros; first | omega | (refine ⟨by omega, ?_⟩; simp_all; done) | (simp_all; done) | (simp_all; omega))) fun _ => ?_; (try simp [h2]))
          refine CondK.intro (fun h3 => ?_) (fun h3 => ?_)
          · simp at h3
            rw [if_pos h3] at ha
            try simp 
            refine CondK.intro (fun h4 => ?_) (fun h4 => ?_)
            · simp at h4
              rw [if_pos (by omega)] at ha
              subst ha
              try simp 
              apply hr'
              apply hr
              simp [rreachV, rzeroV, ← hc]
            · simp at h4
              rw [if_neg (by omega)] at ha
              have hfi2 := hok'.low i (by omega)
              try simp [h2, hi3, hfi3]
              repeat (refine PreK.intro (by first | omega | (intros; first | omega | (refine ⟨by omega, ?_⟩; simp_all; done) | (simp_all; done) | (simp_all; omega))) fun _ => ?_; (try simp [h2, hi3, hfi3]))
              try simp [h2, hi3, hfi3]
              repeat (refine PreK.intro (by first | omega | (intros; first | omega | (refine ⟨by omega, ?_⟩; simp_all; done) | (simp_all; done) | (simp_all; omega))) fun _ => ?_; (try simp [h2, hi3, hfi3]))
              try simp [h2, hi3, hfi3]
              repeat (refine PreK.intro (by first | omega | (intros; first | omega | (refine ⟨by omega, ?_⟩; simp_all; done) | (simp_all; done) | (simp_all; omega))) fun _ => ?_; (try simp [h2, hi3, hfi3]))
              refine hq' (k + 1, ⟨g'.ws ++ [el ms k], g'.nx, g'.far ++ [el g'.far i + 1]⟩, l ++ [(g'.ws.length : Int)]) _ ⟨by dsimp only; omega, by simp [hkl], hok'.push h8 (by omega) (by omega), hnx, by simp; omega, ?_, ?_⟩ (by dsimp only; omega) (by simp)
              · dsimp only
                rw [el_app_left _ _ (by omega)]
                exact hfi
              · dsimp only
                rw [hfi]; exact ha
          · simp at h3
            rw [if_neg (by omega)] at ha
            try simp 
            repeat (refine PreK.intro (by first | omega | (intros; first | omega | (refine ⟨by omega, ?_⟩; simp_all; done) | (simp_all; done) | (simp_all; omega))) fun _ => ?_; (try simp ))
            try simp 
            repeat (refine PreK.intro (by first | omega | (intros; first | omega | (refine ⟨by omega, ?_⟩; simp_all; done) | (simp_all; done) | (simp_all; omega))) fun _ => ?_; (try simp ))
            refine hq' (k + 1, g', l ++ [findI g'.ws (el ms k)]) _ ⟨by dsimp only; omega, by simp [hkl], hok', hnx, hi3, hfi, ha⟩ (by dsimp only; omega) (by simp)
        · simp at h2
          rw [List.drop_eq_nil_of_le (by omega), raddG] at ha
          subst ha
          have hnn : g'.nx.length = i := by rw [hnx]; exact hnl
          try simp 
          apply he'
          try simp 
          repeat' (first
            | ((with_reducible refine PreK.intro ?_ ?_); (next => (first | omega | (intros; first | omega | (refine ⟨by omega, ?_⟩; repeat (first | assumption | constructor)) | assumption))); intro _; try simp )
            | fail)
          refine hq (false, i + 1, ⟨g'.ws, g'.nx ++ [l], g'.far⟩) _ ⟨fun e => (by cases e), ⟨hok'.fine, hok'.num, hok'.far, hok'.low⟩, hi3, by simp [hnn], by dsimp only; rw [show 301 - (i + 1) = n by omega, hnx]; exact hc⟩ (by dsimp only; omega) (by simp)
      · simp at h1
        omega
    · have hnx0 := hkd rfl
      try simp 
      refine CondK.intro (fun h1 => ?_) (fun h1 => ?_)
      · try simp 
        try simp [hi2]
        repeat' (first
          | (refine CallX.pure (hmc) (by simp) (by simp) ?_; try simp [hi2])
          | (refine CallK.intro (hmc) (by simp) (by simp) ?_; try simp [hi2])
          | (refine CallG.intro (fun _ => hmc) (by simp) (by simp) ?_; try simp [hi2])
          | ((with_reducible refine PreK.intro ?_ ?_); (next => (first | omega | (intros; first | omega | (refine ⟨by omega, ?_⟩; repeat (first | assumption | constructor)) | assumption))); intro _; try simp [hi2])
          | fail)
        refine LoopK.by (ι := Nat × RG × List Int) (fun x => ⟨[(10, iv x.1), (9, wordsV ms), (8, .sl 8 (x.2.2.length + 1) 0 x.2.2.length), (7, iv i), (6, .pt 6 1 0 0), (4, .pt 4 1 0 0), (0, rulesV s)], (8, some ⟨1, x.2.2.map iv, x.2.2.length + 1, false⟩) :: rboxT x.2.1⟩)
          (fun x => ms.length - x.1) (fun x => x.1 ≤ ms.length ∧ x.2.2.length = x.1 ∧ x.2.1.ok ∧ x.2.1.nx = g.nx ∧ i < x.2.1.ws.length ∧ el x.2.1.far i = el g.far i ∧ raddG (el g.far i + 1) x.2.1.ws x.2.1.far x.2.2 (ms.drop x.1) = RA) (0, g, []) ⟨by simp, rfl, hok, rfl, hi2, rfl, hRA⟩ (by simp) ?_
        intro ⟨k, g', l⟩ Q'' ⟨hk, hkl, hok', hnx, hi3, hfi, ha⟩ hq' he' hr'
        dsimp only at hk hkl hok' hnx hi3 hfi ha
        have hnum' := hok'.num
        have hfl' := hok'.far
        have hfi3 : i < g'.far.length := by omega
        try simp 
        refine CondK.intro (fun h2 => ?_) (fun h2 => ?_)
        · simp at h2
          have h8 := hms _ (el_mem_of ms k h2)
          rw [drop_cons ms k h2, raddG] at ha
          have hfc := find_c g'.ws (el ms k) (by omega) (fun x hx => by have := (wordErr_zero (hok'.fine x hx)).1; omega)
          have hfa := idxG_lt (fun x => decide (x = el ms k)) g'.ws 0
          have hfr : findI g'.ws (el ms k) = idxG (fun x => decide (x = el ms k)) 0 g'.ws := rfl
          have hfb : findI g'.ws (el ms k) = -1 ∨ (0 ≤ findI g'.ws (el ms k) ∧ findI g'.ws (el ms k) < g'.ws.length) := by
            rcases hfa with e | ⟨j, j1, j2, _⟩
            · exact .inl (hfr.trans e)
            · right; rw [hfr, j2]; omega
          try simp [h2]
          repeat (refine PreK.intro (by first | omega | (intros; first | omega | (refine ⟨by omega, ?_⟩; simp_all; done) | (simp_all; done) | (simp_all; omega))) fun _ => ?_; (try simp [h2]))
          refine CallK.intro (by simpa using hfc) (by simp) (by simp) ?_
          try simp [h2]
          repeat (refine PreK.intro (by first | omega | (intros; first | omega | (refine ⟨by omega, ?_⟩; simp_all; done) | (simp_all; done) | (simp_all; omega))) fun _ => ?_; (try simp [h2]))
          refine CondK.intro (fun h3 => ?_) (fun h3 => ?_)
          · simp at h3
            rw [if_pos h3] at ha
            try simp 
            refine CondK.intro (fun h4 => ?_) (fun h4 => ?_)
            · simp at h4
              rw [if_pos (by omega)] at ha
              subst ha
              try simp 
              apply hr'
              apply hr
              simp [rreachV, rzeroV, ← hc]
            · simp at h4
              rw [if_neg (by omega)] at ha
              have hfi2 := hok'.low i (by omega)
              try simp [h2, hi3, hfi3]
              repeat (refine PreK.intro (by first | omega | (intros; first | omega | (refine ⟨by omega, ?_⟩; simp_all; done) | (simp_all; done) | (simp_all; omega))) fun _ => ?_; (try simp [h2, hi3, hfi3]))
              try simp [h2, hi3, hfi3]
              repeat (refine PreK.intro (by first | omega | (intros; first | omega | (refine ⟨by omega, ?_⟩; simp_all; done) | (simp_all; done) | (simp_all; omega))) fun _ => ?_; (try simp [h2, hi3, hfi3]))
              try simp [h2, hi3, hfi3]
              repeat (refine PreK.intro (by first | omega | (intros; first | omega | (refine ⟨by omega, ?_⟩; simp_all; done) | (simp_all; done) | (simp_all; omega))) fun _ => ?_; (try simp [h2, hi3, hfi3]))
              refine hq' (k + 1, ⟨g'.ws ++ [el ms k], g'.nx, g'.far ++ [el g'.far i + 1]⟩, l ++ [(g'.ws.length : Int)]) _ ⟨by dsimp only; omega, by simp [hkl], hok'.push h8 (by omega) (by omega), hnx, by simp; omega, ?_, ?_⟩ (by dsimp only; omega) (by simp)
              · dsimp only
                rw [el_app_left _ _ (by omega)]
                exact hfi
              · dsimp only
                rw [hfi]; exact ha
          · simp at h3
            rw [if_neg (by omega)] at ha
            try simp 
            repeat (refine PreK.intro (by first | omega | (intros; first | omega | (refine ⟨by omega, ?_⟩; simp_all; done) | (simp_all; done) | (simp_all; omega))) fun _ => ?_; (try simp ))
            try simp 
            repeat (refine PreK.intro (by first | omega | (intros; first | omega | (refine ⟨by omega, ?_⟩; simp_all; done) | (simp_all; done) | (simp_all; omega))) fun _ => ?_; (try simp ))
            refine hq' (k + 1, g', l ++ [findI g'.ws (el ms k)]) _ ⟨by dsimp only; omega, by simp [hkl], hok', hnx, hi3, hfi, ha⟩ (by dsimp only; omega) (by simp)
        · simp at h2
          rw [List.drop_eq_nil_of_le (by omega), raddG] at ha
          subst ha
          have hnn : g'.nx = [] := by rw [hnx]; exact hnx0
          have hi0 : i = 0 := by rw [← hnl, hnx0]; rfl
          try simp 
          apply he'
          try simp 
          repeat' (first
            | ((with_reducible refine PreK.intro ?_ ?_); (next => (first | omega | (intros; first | omega | (refine ⟨by omega, ?_⟩; repeat (first | assumption | constructor)) | assumption))); intro _; try simp )
            | fail)
          refine hq (false, i + 1, ⟨g'.ws, g'.nx ++ [l], g'.far⟩) _ ⟨fun e => (by cases e), ⟨hok'.fine, hok'.num, hok'.far, hok'.low⟩, hi3, by simp [hnn, hi0], by dsimp only; rw [show 301 - (i + 1) = n by omega, hnx]; exact hc⟩ (by dsimp only; omega) (by simp [hnn])
      · simp at h1
        omega
  · rw [if_neg hi2] at hc
    cases kd
    · try simp 
      refine CondK.intro (fun h1 => ?_) (fun h1 => ?_)
      · simp at h1
        omega
      · try simp 
        apply he
        try simp 
        simp [rreachV, rgraphV, ← hc]
    · have hnx0 := hkd rfl
      try simp 
      refine CondK.intro (fun h1 => ?_) (fun h1 => ?_)
      · simp at h1
        omega
      · try simp 
        apply he
        try simp 
        simp [rreachV, rgraphV, ← hc, hnx0]
end Go.Proofs.Ytkhddecnllcaiaa
end

section
/- Contracts: the reference's Reach; the statement FeedReaches. -/
namespace Go.Proofs.Ytkhddecnllcaiaa
open Go.Abs Go
set_option maxRecDepth 20000
set_option maxHeartbeats 2000000
attribute [local irreducible] PreK CondK CallK CallG CallX LoopK
attribute [local simp] avsEq avEq akind teq vkind vEq

theorem rcloseG_ok {s : List Rule} (hs : sysErr s = 0) : ∀ {n i : Nat} {g g' : RG}, g.ok → i ≤ g.ws.length → rcloseG s n i g = some g' → g'.ok
  | 0, i, g, g', h, _, e => by
    simp only [rcloseG, Option.some.injEq] at e
    subst e; exact h
  | n + 1, i, g, g', h, hi, e => by
    rw [rcloseG] at e
    split at e
    · rename_i hi2
      have hu := h.fine _ (el_mem_of g.ws i hi2)
      have hm : ∀ x ∈ nxR s (el g.ws i), wordErr x = 0 := by
        intro x hx
        obtain ⟨m, hm, rfl⟩ := List.mem_map.1 (mem_nxR.1 hx)
        exact moves_right hs hu hm
      have key : ∀ (l : List Word) (ws : List Word) (fr ls : List Int) (nx : List (List Int)) (q : List Word × List Int × List Int), (∀ x ∈ l, wordErr x = 0) → RG.ok ⟨ws, nx, fr⟩ → i < ws.length → el fr i = el g.far i →
          raddG (el g.far i + 1) ws fr ls l = some q → RG.ok ⟨q.1, nx, q.2.1⟩ ∧ i < q.1.length := by
        intro l
        induction l with
        | nil =>
          intro ws fr ls nx q _ hok hi3 _ hq
          simp only [raddG, Option.some.injEq] at hq
          subst hq; exact ⟨hok, hi3⟩
        | cons v l ih =>
          intro ws fr ls nx q hl hok hi3 hfi hq
          rw [raddG] at hq
          split at hq
          · split at hq
            · cases hq
            · rename_i h3
              have hnum := hok.num
              dsimp only at hnum
              have hp := hok.push (w := v) (i := i) (hl v (by simp)) (by dsimp only; omega) hi3
              dsimp only at hp
              rw [hfi] at hp
              refine ih _ _ _ nx q (fun x hx => hl x (by simp [hx])) hp (by simp; omega) ?_ hq
              rw [el_app_left _ _ (by have := hok.far; dsimp only at this; omega)]
              exact hfi
          · exact ih _ _ _ nx q (fun x hx => hl x (by simp [hx])) hok hi3 hfi hq
      cases ha : raddG (el g.far i + 1) g.ws g.far [] (nxR s (el g.ws i)) with
      | none => rw [ha] at e; cases e
      | some q =>
        obtain ⟨q1, q2, q3⟩ := q
        rw [ha] at e
        obtain ⟨k1, k2⟩ := key _ _ _ _ g.nx _ hm ⟨h.fine, h.num, h.far, h.low⟩ hi2 rfl ha
        exact rcloseG_ok (g := ⟨q1, g.nx ++ [q3], q2⟩) hs ⟨k1.fine, k1.num, k1.far, k1.low⟩ (by dsimp only at k2 ⊢; omega) e
    · simp only [Option.some.injEq] at e
      subst e; exact h
theorem rreachG_ok {s : List Rule} {w : Word} {g : RG} (h : swErr s w = 0) (e : rreachG s w = some g) : g.ok := by
  refine rcloseG_ok (swErr_zero h).1 ⟨by simpa using (swErr_zero h).2, by simp, rfl, fun j hj => ?_⟩ (Nat.zero_le _) e
  simp at hj
  subst hj
  simp [el]
def rgraphedV (s : List Rule) (w : Word) : AV := if swErr s w ≠ 0 then .tup [rzeroV, iv (swErr s w)] else match rreachG s w with
  | none => .tup [rzeroV, iv 3]
  | some g => .tup [rgraphV g, iv 0]
theorem graphed_c (s : List Rule) (w : List Int) (h : Sys.small s) (hw : w.length ≤ 1000) : CallP Try.prog 79 [rulesV s, ints w] (rgraphedV s w) := by
  refine C79 (by simp) ?_
  have hck := rworded_c s w [] h hw (by simp)
  rw [check_nil] at hck
  simp [A79]
  try simp 
  repeat' (first
    | (refine CallX.pure (hck) (by simp) (by simp) ?_; try simp )
    | (refine CallK.intro (hck) (by simp) (by simp) ?_; try simp )
    | (refine CallG.intro (fun _ => hck) (by simp) (by simp) ?_; try simp )
    | ((with_reducible refine PreK.intro ?_ ?_); (next => (first | omega | (intros; first | omega | (refine ⟨by omega, ?_⟩; repeat (first | assumption | constructor)) | assumption))); intro _; try simp )
    | fail)
  refine CondK.intro (fun h1 => ?_) (fun h1 => ?_)
  · simp at h1
    simp [rgraphedV, h1, rzeroV]
  · simp at h1
    have hx := reached_x s w h (swErr_zero h1).1 (swErr_zero h1).2
    have e : rgraphedV s w = match rreachG s w with | none => .tup [rzeroV, iv 3] | some g => .tup [rgraphV g, iv 0] := by simp [rgraphedV, h1]
    rw [e]
    cases hg : rreachG s w with
    | none =>
      rw [hg] at hx
      simp only [rreachV, rzeroV] at hx ⊢
      try simp 
      repeat' (first
        | (refine CallX.pure (hx) (by simp) (by simp) ?_; try simp )
        | (refine CallK.intro (hx) (by simp) (by simp) ?_; try simp )
        | (refine CallG.intro (fun _ => hx) (by simp) (by simp) ?_; try simp )
        | ((with_reducible refine PreK.intro ?_ ?_); (next => (first | omega | (intros; first | omega | (refine ⟨by omega, ?_⟩; repeat (first | assumption | constructor)) | assumption))); intro _; try simp )
        | fail)
      refine CondK.intro (fun h2 => ?_) (fun h2 => ?_)
      · try simp 
        repeat' (first
          | ((with_reducible refine PreK.intro ?_ ?_); (next => (first | omega | (intros; first | omega | (refine ⟨by omega, ?_⟩; repeat (first | assumption | constructor)) | assumption))); intro _; try simp )
          | fail)
      · simp at h2
    | some g =>
      rw [hg] at hx
      simp only [rreachV, rgraphV] at hx ⊢
      try simp 
      repeat' (first
        | (refine CallX.pure (hx) (by simp) (by simp) ?_; try simp )
        | (refine CallK.intro (hx) (by simp) (by simp) ?_; try simp )
        | (refine CallG.intro (fun _ => hx) (by simp) (by simp) ?_; try simp )
        | ((with_reducible refine PreK.intro ?_ ?_); (next => (first | omega | (intros; first | omega | (refine ⟨by omega, ?_⟩; repeat (first | assumption | constructor)) | assumption))); intro _; try simp )
        | fail)
      refine CondK.intro (fun h2 => ?_) (fun h2 => ?_)
      · simp at h2
      · try simp 
        repeat' (first
          | ((with_reducible refine PreK.intro ?_ ?_); (next => (first | omega | (intros; first | omega | (refine ⟨by omega, ?_⟩; repeat (first | assumption | constructor)) | assumption))); intro _; try simp )
          | fail)
theorem ReachE_small {s : List Rule} {w : Word} : (ReachE s w).1.length ≤ 1000 ∧ ∀ x ∈ (ReachE s w).1, x.length ≤ 1000 := by
  unfold ReachE
  by_cases h0 : swErr s w = 0
  · simp only [h0, ne_eq, not_true_eq_false, if_false]
    cases hg : reachG s w with
    | none => simp
    | some g =>
      have hok := reachG_ok h0 hg
      have hnum := hok.num
      have h1 := uniq_len g.ws
      dsimp only
      refine ⟨by omega, fun x hx => ?_⟩
      have := (wordErr_zero (hok.fine x (((uniq_sorted g.ws).2 x).1 hx))).1
      omega
  · simp [h0]
def partB (a b : List Word) : Bool := a.all fun x => b.any fun y => decide (x = y)
theorem part_c (a b : List Word) (ha : a.length ≤ 1000) (hb : b.length ≤ 1000) (hwa : ∀ x ∈ a, x.length ≤ 1000) : CallP Try.prog 40 [wordsV a, wordsV b] (bv (partB a b)) := by
  refine C40 (by simp) ?_
  generalize hR : partB a b = R
  unfold partB at hR
  simp [A40]
  refine LoopK.by (fun i : Nat => ⟨[(5, iv i), (0, wordsV a), (1, wordsV b)], []⟩) (fun i => a.length - i) (fun i => i ≤ a.length ∧ ((a.drop i).all fun x => b.any fun y => decide (x = y)) = R) 0 (by simpa using hR) (by simp) ?_
  intro i Q' ⟨hi, hc⟩ hq he hr
  try simp 
  refine CondK.intro (fun h1 => ?_) (fun h1 => ?_)
  · simp at h1
    have hxl := hwa _ (el_mem_of a i h1)
    rw [drop_cons a i h1, List.all_cons] at hc
    generalize hB : (b.any fun y => decide (el a i = y)) = B at hc
    try simp 
    refine LoopK.by (ι := Nat × Bool) (fun x => ⟨[(7, iv x.1), (6, bv x.2), (5, iv i), (0, wordsV a), (1, wordsV b)], []⟩) (fun x => b.length - x.1) (fun x => x.1 ≤ b.length ∧ (x.2 || ((b.drop x.1).any fun y => decide (el a i = y))) = B) (0, false) (by simpa using hB) (by simp) ?_
    intro ⟨k, d⟩ Q'' ⟨hk, hd⟩ hq' he' hr'
    dsimp only at hk hd
    try simp 
    refine CondK.intro (fun h2 => ?_) (fun h2 => ?_)
    · simp at h2
      rw [drop_cons b k h2, List.any_cons] at hd
      cases d
      · try simp [h1, h2]
        repeat (refine PreK.intro (by first | omega | (intros; first | omega | (refine ⟨by omega, ?_⟩; simp_all; done) | (simp_all; done) | (simp_all; omega))) fun _ => ?_; (try simp [h1, h2]))
        refine CallG.intro (r := bv (decide (el a i = el b k))) (fun _ => by simpa [h1, h2] using same1_c (el a i) (el b k) (big_of hxl)) (by simp) (by simp) ?_
        try simp 
        try simp 
        repeat (refine PreK.intro (by first | omega | (intros; first | omega | (refine ⟨by omega, ?_⟩; simp_all; done) | (simp_all; done) | (simp_all; omega))) fun _ => ?_; (try simp ))
        exact hq' (k + 1, decide (el a i = el b k)) _ ⟨by dsimp only; omega, by simpa using hd⟩ (by dsimp only; omega) (by simp)
      · try simp [h1, h2]
        repeat (refine PreK.intro (by first | omega | (intros; first | omega | (refine ⟨by omega, ?_⟩; simp_all; done) | (simp_all; done) | (simp_all; omega))) fun _ => ?_; (try simp [h1, h2]))
        refine CallG.intro (r := bv true) (fun hh => by cases hh) (by simp) (by simp) ?_
        try simp 
        try simp 
        repeat (refine PreK.intro (by first | omega | (intros; first | omega | (refine ⟨by omega, ?_⟩; simp_all; done) | (simp_all; done) | (simp_all; omega))) fun _ => ?_; (try simp ))
        exact hq' (k + 1, true) _ ⟨by dsimp only; omega, by simpa using hd⟩ (by dsimp only; omega) (by simp)
    · simp at h2
      rw [List.drop_eq_nil_of_le (by omega)] at hd
      simp at hd
      subst hd
      try simp 
      apply he'
      try simp 
      repeat' (first
        | ((with_reducible refine PreK.intro ?_ ?_); (next => (first | omega | (intros; first | omega | (refine ⟨by omega, ?_⟩; repeat (first | assumption | constructor)) | assumption))); intro _; try simp )
        | fail)
      refine CondK.intro (fun h3 => ?_) (fun h3 => ?_)
      · simp at h3
        rw [h3] at hc
        simp at hc
        try simp 
        apply hr
        simp [← hc]
      · simp at h3
        rw [h3] at hc
        simp only [Bool.true_and] at hc
        try simp 
        repeat' (first
          | ((with_reducible refine PreK.intro ?_ ?_); (next => (first | omega | (intros; first | omega | (refine ⟨by omega, ?_⟩; repeat (first | assumption | constructor)) | assumption))); intro _; try simp )
          | fail)
        exact hq (i + 1) _ ⟨by omega, hc⟩ (by omega) (by simp)
  · simp at h1
    rw [List.drop_eq_nil_of_le (by omega)] at hc
    simp at hc
    try simp 
    apply he
    simp [← hc]
end Go.Proofs.Ytkhddecnllcaiaa
end

section
/- Plain: walks in a finite graph; the longest one, found in rounds and by going deep. -/
namespace Go.Proofs.Ytkhddecnllcaiaa
open Go.Abs Go

variable {nx : Word → List Word}
theorem ReachN.split {u v : Word} : ∀ {n m : Nat}, ReachN nx u (n + m) v → ∃ x, ReachN nx u n x ∧ ReachN nx x m v
  | n, 0, h => ⟨v, h, .zero⟩
  | n, m + 1, h => by
    cases h with
    | succ h hx =>
      obtain ⟨x, h1, h2⟩ := ReachN.split (n := n) (m := m) h
      exact ⟨x, h1, .succ h2 hx⟩
theorem ReachN.first {u v : Word} {n : Nat} (h : ReachN nx u (n + 1) v) : ∃ x, x ∈ nx u ∧ ReachN nx x n v := by
  rw [Nat.add_comm] at h
  obtain ⟨x, h1, h2⟩ := ReachN.split (n := 1) (m := n) h
  cases h1 with
  | succ h3 hx =>
    cases h3 with
    | zero => exact ⟨x, hx, h2⟩
theorem ReachN.cons {u x v : Word} {n : Nat} (hx : x ∈ nx u) (h : ReachN nx x n v) : ReachN nx u (n + 1) v := by
  have : ReachN nx u 1 x := .succ .zero hx
  have := this.trans h
  rwa [Nat.add_comm] at this
/-- Steps go on for ever. -/
def EverR (nx : Word → List Word) (w : Word) : Prop := ∀ n, ∃ x, ReachN nx w n x
/-- The greatest number of steps, or none if they go on for ever. -/
structure LongR (nx : Word → List Word) (w : Word) (n : Int) (ok : Bool) : Prop where
  fin : ok = true → (∃ m : Nat, n = (m : Int) ∧ ∃ x, ReachN nx w m x) ∧ ∀ (m : Nat) (x : Word), ReachN nx w m x → (m : Int) ≤ n
  ever : ok = false → n = 0 ∧ EverR nx w
theorem LongR.same {w : Word} {n m : Int} {a b : Bool} (h : LongR nx w n a) (k : LongR nx w m b) : n = m ∧ a = b := by
  cases a with
  | true =>
    obtain ⟨⟨x, hx, y, hy⟩, h2⟩ := h.fin rfl
    cases b with
    | true =>
      obtain ⟨⟨x', hx', y', hy'⟩, h2'⟩ := k.fin rfl
      have := h2 _ _ hy'
      have := h2' _ _ hy
      exact ⟨by omega, rfl⟩
    | false =>
      obtain ⟨_, h3⟩ := k.ever rfl
      obtain ⟨z, hz⟩ := h3 (x + 1)
      have := h2 _ _ hz
      omega
  | false =>
    obtain ⟨h0, h3⟩ := h.ever rfl
    cases b with
    | true =>
      obtain ⟨⟨x', hx', y', hy'⟩, h2'⟩ := k.fin rfl
      obtain ⟨z, hz⟩ := h3 (x' + 1)
      have := h2' _ _ hz
      omega
    | false => exact ⟨by rw [h0, (k.ever rfl).1], rfl⟩
theorem LongR.congr {nx' : Word → List Word} (he : ∀ v x, x ∈ nx v ↔ x ∈ nx' v) {w : Word} {n : Int} {a : Bool} (h : LongR nx w n a) : LongR nx' w n a := by
  refine ⟨fun ha => ?_, fun ha => ?_⟩
  · obtain ⟨⟨m, h1, x, h2⟩, h3⟩ := h.fin ha
    exact ⟨⟨m, h1, x, h2.congr he⟩, fun k y hy => h3 k y (hy.congr fun v x => (he v x).symm)⟩
  · obtain ⟨h1, h2⟩ := h.ever ha
    exact ⟨h1, fun n => by obtain ⟨x, hx⟩ := h2 n; exact ⟨x, hx.congr he⟩⟩
/-- What holds while edges are gone through. -/
structure RelOK (nx : Word → List Word) (ws : List Word) (o : List Int) (b : Int) : Prop where
  len : o.length = ws.length
  walk : ∀ i, i < ws.length → ∃ n : Nat, el o i = (n : Int) ∧ ∃ u ∈ ws, ReachN nx u n (el ws i)
  top : ∀ i, i < ws.length → el o i ≤ b
  best : b = 0 ∨ ∃ i, i < ws.length ∧ el o i = b
  pos : 0 ≤ b
/-- The edges of a graph of words. -/
structure EdgesOK (nx : Word → List Word) (ws : List Word) (es : List (Nat × Nat)) : Prop where
  lt : ∀ e ∈ es, e.1 < ws.length ∧ e.2 < ws.length ∧ el ws e.2 ∈ nx (el ws e.1)
  all : ∀ i, i < ws.length → ∀ x ∈ nx (el ws i), ∃ j, (i, j) ∈ es ∧ el ws j = x
/-- The words that are reached, and no others. -/
structure AllOK (nx : Word → List Word) (w : Word) (ws : List Word) : Prop where
  mem : w ∈ ws
  reach : ∀ x ∈ ws, ∃ n, ReachN nx w n x
  all : ∀ n x, ReachN nx w n x → x ∈ ws
end Go.Proofs.Ytkhddecnllcaiaa
end

section
/- Contracts: the program's path, the reference's distance; the statement FeedFinds. -/
namespace Go.Proofs.Ytkhddecnllcaiaa
open Go.Abs Go
set_option maxRecDepth 20000
set_option maxHeartbeats 2000000
attribute [local irreducible] PreK CondK CallK CallG CallX LoopK
attribute [local simp] avsEq avEq akind teq vkind vEq

theorem checkErr_two {s : List Rule} {w v : List Int} (h : checkErr s [w, v] = 0) : sysErr s = 0 ∧ wordErr w = 0 ∧ wordErr v = 0 := by
  unfold checkErr at h
  by_cases h1 : sysErr s = 0
  · by_cases h2 : wordErr w = 0
    · simp [h1, h2, firstW] at h
      exact ⟨h1, h2, Decidable.byContradiction fun e => e (h e)⟩
    · simp [h1, h2, firstW] at h
  · simp [h1] at h
end Go.Proofs.Ytkhddecnllcaiaa
end

section
/- Plain: a system without a rule. -/
namespace Go.Proofs.Ytkhddecnllcaiaa
open Go.Abs Go

theorem closed_mem {s : List Rule} {w : Word} {g : Gr} (h : reachG s w = some g) : (∀ n x, ReachN (nxP s) w n x → x ∈ g.ws) ∧ ∀ x ∈ g.ws, ∃ n, ReachN (nxP s) w n x := by
  have h1 := reachG_F s w
  rw [h] at h1
  cases hc : closeM (nxP s) w with
  | none => rw [hc] at h1; exact h1.elim
  | some ws =>
    rw [hc] at h1
    have hcl := closeM_some hc
    refine ⟨fun n x hx => ?_, fun x hx => ?_⟩
    · obtain ⟨z, hz, e, _⟩ := hcl.all n x hx
      rw [h1.words]
      exact List.mem_map.2 ⟨z, hz, e⟩
    · rw [h1.words] at hx
      obtain ⟨y, hy, rfl⟩ := List.mem_map.1 hx
      exact ⟨_, hcl.reach y hy⟩
end Go.Proofs.Ytkhddecnllcaiaa
end

section
/- Contracts: whether two words reach a common one, by both ways; the statement FeedJoins. -/
namespace Go.Proofs.Ytkhddecnllcaiaa
open Go.Abs Go
set_option maxRecDepth 20000
set_option maxHeartbeats 2000000
attribute [local irreducible] PreK CondK CallK CallG CallX LoopK
attribute [local simp] avsEq avEq akind teq vkind vEq

def meetB (a b : List Word) : Bool := a.any fun x => decide (x ∈ b)
def JoinR (s : List Rule) (u v : Word) : Bool × Int :=
  if checkErr s [u, v] ≠ 0 then (false, checkErr s [u, v]) else match reachG s u with
  | none => (false, 3)
  | some a => match reachG s v with
    | none => (false, 3)
    | some b => (meetB a.ws b.ws, 0)
theorem Join_c (s : List Rule) (u v : List Int) (h : Sys.small s) (hu : u.length ≤ 1000) (hv : v.length ≤ 1000) :
    CallP Try.prog 31 [rulesV s, ints u, ints v] (.tup [bv (JoinR s u v).1, iv (JoinR s u v).2]) := by
  refine C31 (by simp) ?_
  have hck := check_c s [u, v] h (by simp) (by intro x hx; simp at hx; rcases hx with rfl | rfl <;> assumption)
  simp [A31]
  refine CallX.pure (CallP.weak (by simpa [weakL, weak] using hck)) (by simp) (by simp) ?_
  try simp 
  refine CondK.intro (fun h1 => ?_) (fun h1 => ?_)
  · simp at h1
    simp [JoinR, h1]
  · simp at h1
    obtain ⟨z1, z2, z3⟩ := checkErr_two h1
    have hrc := reach_c s u h z1 z2
    have hrd := reach_c s v h z1 z3
    have s1 : swErr s u = 0 := by unfold swErr; rw [if_neg (by simp [z1])]; exact z2
    have s2 : swErr s v = 0 := by unfold swErr; rw [if_neg (by simp [z1])]; exact z3
    cases hg : reachG s u with
    | none =>
      rw [hg] at hrc
      have e2 : JoinR s u v = (false, 3) := by simp [JoinR, h1, hg]
      rw [e2]
      simp only [reachV] at hrc
      try simp 
      repeat' (first
        | (refine CallX.pure (hrc) (by simp) (by simp) ?_; try simp )
        | (refine CallK.intro (hrc) (by simp) (by simp) ?_; try simp )
        | (refine CallG.intro (fun _ => hrc) (by simp) (by simp) ?_; try simp )
        | ((with_reducible refine PreK.intro ?_ ?_); (next => (first | omega | (intros; first | omega | (refine ⟨by omega, ?_⟩; repeat (first | assumption | constructor)) | assumption))); intro _; try simp )
        | fail)
      refine CondK.intro (fun h2 => ?_) (fun h2 => ?_)
      · try simp 
        repeat' (first
          | ((with_reducible refine PreK.intro ?_ ?_); (next => (first | omega | (intros; first | omega | (refine ⟨by omega, ?_⟩; repeat (first | assumption | constructor)) | assumption))); intro _; try simp )
          | fail)
      · simp at h2
    | some a =>
      rw [hg] at hrc
      simp only [reachV] at hrc
      cases hg2 : reachG s v with
      | none =>
        rw [hg2] at hrd
        have e2 : JoinR s u v = (false, 3) := by simp [JoinR, h1, hg, hg2]
        rw [e2]
        simp only [reachV] at hrd
        simp only [graphV] at hrc
        try simp 
        repeat' (first
          | (refine CallX.pure (hrc) (by simp) (by simp) ?_; try simp )
          | (refine CallK.intro (hrc) (by simp) (by simp) ?_; try simp )
          | (refine CallG.intro (fun _ => hrc) (by simp) (by simp) ?_; try simp )
          | ((with_reducible refine PreK.intro ?_ ?_); (next => (first | omega | (intros; first | omega | (refine ⟨by omega, ?_⟩; repeat (first | assumption | constructor)) | assumption))); intro _; try simp )
          | fail)
        refine CondK.intro (fun h2 => ?_) (fun h2 => ?_)
        · simp at h2
        · try simp 
          repeat' (first
            | (refine CallX.pure (hrd) (by simp) (by simp) ?_; try simp )
            | (refine CallK.intro (hrd) (by simp) (by simp) ?_; try simp )
            | (refine CallG.intro (fun _ => hrd) (by simp) (by simp) ?_; try simp )
            | ((with_reducible refine PreK.intro ?_ ?_); (next => (first | omega | (intros; first | omega | (refine ⟨by omega, ?_⟩; repeat (first | assumption | constructor)) | assumption))); intro _; try simp )
            | fail)
          refine CondK.intro (fun h3 => ?_) (fun h3 => ?_)
          · try simp 
            repeat' (first
              | ((with_reducible refine PreK.intro ?_ ?_); (next => (first | omega | (intros; first | omega | (refine ⟨by omega, ?_⟩; repeat (first | assumption | constructor)) | assumption))); intro _; try simp )
              | fail)
          · simp at h3
      | some b =>
        rw [hg2] at hrd
        have e2 : JoinR s u v = (meetB a.ws b.ws, 0) := by simp [JoinR, h1, hg, hg2]
        rw [e2]
        have hmc := meet_c s a b (reachG_ok s1 hg) (reachG_ok s2 hg2)
        simp only [reachV] at hrd
        simp only [graphV] at hrc hrd hmc
        try simp 
        repeat' (first
          | (refine CallX.pure (hrc) (by simp) (by simp) ?_; try simp )
          | (refine CallK.intro (hrc) (by simp) (by simp) ?_; try simp )
          | (refine CallG.intro (fun _ => hrc) (by simp) (by simp) ?_; try simp )
          | ((with_reducible refine PreK.intro ?_ ?_); (next => (first | omega | (intros; first | omega | (refine ⟨by omega, ?_⟩; repeat (first | assumption | constructor)) | assumption))); intro _; try simp )
          | fail)
        refine CondK.intro (fun h2 => ?_) (fun h2 => ?_)
        · simp at h2
        · try simp 
          repeat' (first
            | (refine CallX.pure (hrd) (by simp) (by simp) ?_; try simp )
            | (refine CallK.intro (hrd) (by simp) (by simp) ?_; try simp )
            | (refine CallG.intro (fun _ => hrd) (by simp) (by simp) ?_; try simp )
            | ((with_reducible refine PreK.intro ?_ ?_); (next => (first | omega | (intros; first | omega | (refine ⟨by omega, ?_⟩; repeat (first | assumption | constructor)) | assumption))); intro _; try simp )
            | fail)
          refine CondK.intro (fun h3 => ?_) (fun h3 => ?_)
          · simp at h3
          · try simp 
            repeat' (first
              | (refine CallX.pure (hmc) (by simp) (by simp) ?_; try simp )
              | (refine CallK.intro (hmc) (by simp) (by simp) ?_; try simp )
              | (refine CallG.intro (fun _ => hmc) (by simp) (by simp) ?_; try simp )
              | ((with_reducible refine PreK.intro ?_ ?_); (next => (first | omega | (intros; first | omega | (refine ⟨by omega, ?_⟩; repeat (first | assumption | constructor)) | assumption))); intro _; try simp )
              | fail)
            simp [meetB]
def rmeetF (b : List Word) : List Word → Bool
  | [] => false
  | x :: l => if x ∈ b then true else rmeetF b l
theorem rmeetF_any (b : List Word) : ∀ l, rmeetF b l = meetB l b
  | [] => rfl
  | x :: l => by
    rw [rmeetF, rmeetF_any b l]
    by_cases h : x ∈ b <;> simp [meetB, h]
theorem rmeet_c (a b : List Word) (ha : a.length ≤ 1000) (hb : b.length ≤ 1000) (ha8 : ∀ x ∈ a, x.length ≤ 1000) (hb8 : ∀ x ∈ b, x.length ≤ 1000) : CallP Try.prog 80 [wordsV a, wordsV b] (bv (meetB a b)) := by
  refine C80 (by simp) ?_
  rw [← rmeetF_any]
  generalize hR : rmeetF b a = R
  simp [A80]
  refine LoopK.by (ι := Nat) (fun i => ⟨[(5, iv i), (0, wordsV a), (1, wordsV b)], []⟩) (fun i => a.length - i) (fun i => i ≤ a.length ∧ rmeetF b (a.drop i) = R) 0 ⟨Nat.zero_le _, by simpa using hR⟩ (by simp) ?_
  intro i Q' ⟨hi, hc⟩ hq he hr
  try simp 
  refine CondK.intro (fun h1 => ?_) (fun h1 => ?_)
  · simp at h1
    rw [drop_cons a i h1, rmeetF] at hc
    try simp [h1]
    repeat' (first
      | (refine CallX.pure (find_c b (el a i) hb hb8) (by simp) (by simp) ?_; try simp [h1])
      | (refine CallK.intro (find_c b (el a i) hb hb8) (by simp) (by simp) ?_; try simp [h1])
      | (refine CallG.intro (fun _ => find_c b (el a i) hb hb8) (by simp) (by simp) ?_; try simp [h1])
      | ((with_reducible refine PreK.intro ?_ ?_); (next => (first | omega | (intros; first | omega | (refine ⟨by omega, ?_⟩; repeat (first | assumption | constructor)) | assumption))); intro _; try simp [h1])
      | fail)
    have hfm := findI_mem b (el a i)
    refine CondK.intro (fun h2 => ?_) (fun h2 => ?_)
    · have hin : el a i ∈ b := by
        (try simp at h2)
        have : decide (0 ≤ findI b (el a i)) = true := by simpa using h2
        rw [hfm] at this
        simpa using this
      rw [if_pos hin] at hc
      subst hc
      try simp 
      apply hr
      try simp 
      repeat' (first
        | ((with_reducible refine PreK.intro ?_ ?_); (next => (first | omega | (intros; first | omega | (refine ⟨by omega, ?_⟩; repeat (first | assumption | constructor)) | assumption))); intro _; try simp )
        | fail)
    · have hin : ¬ el a i ∈ b := by
        (try simp at h2)
        intro hm
        have : decide (0 ≤ findI b (el a i)) = true := by rw [hfm]; simpa using hm
        simp at this
        omega
      rw [if_neg hin] at hc
      try simp 
      repeat (refine PreK.intro (by first | omega | (intros; first | omega | (refine ⟨by omega, ?_⟩; simp_all; done) | (simp_all; done) | (simp_all; omega))) fun _ => ?_; (try simp ))
      exact hq (i + 1) _ ⟨by omega, hc⟩ (by omega) (by simp)
  · simp at h1
    rw [List.drop_eq_nil_of_le (by omega), rmeetF] at hc
    subst hc
    try simp 
    apply he
    try simp 
    repeat' (first
      | ((with_reducible refine PreK.intro ?_ ?_); (next => (first | omega | (intros; first | omega | (refine ⟨by omega, ?_⟩; repeat (first | assumption | constructor)) | assumption))); intro _; try simp )
      | fail)
def JoinRef (s : List Rule) (u v : Word) : Bool × Int :=
  if checkErr s [u, v] ≠ 0 then (false, checkErr s [u, v]) else match rreachG s u with
  | none => (false, 3)
  | some a => match rreachG s v with
    | none => (false, 3)
    | some b => (meetB a.ws b.ws, 0)
theorem rJoin_c (s : List Rule) (u v : List Int) (h : Sys.small s) (hu : u.length ≤ 1000) (hv : v.length ≤ 1000) :
    CallP Try.prog 41 [rulesV s, ints u, ints v] (.tup [bv (JoinRef s u v).1, iv (JoinRef s u v).2]) := by
  refine C41 (by simp) ?_
  have hck := rworded_c s u v h hu hv
  simp [A41]
  try simp 
  repeat' (first
    | (refine CallX.pure (hck) (by simp) (by simp) ?_; try simp )
    | (refine CallK.intro (hck) (by simp) (by simp) ?_; try simp )
    | (refine CallG.intro (fun _ => hck) (by simp) (by simp) ?_; try simp )
    | ((with_reducible refine PreK.intro ?_ ?_); (next => (first | omega | (intros; first | omega | (refine ⟨by omega, ?_⟩; repeat (first | assumption | constructor)) | assumption))); intro _; try simp )
    | fail)
  refine CondK.intro (fun h1 => ?_) (fun h1 => ?_)
  · simp at h1
    simp [JoinRef, h1]
  · simp at h1
    obtain ⟨z1, z2, z3⟩ := checkErr_two h1
    have s1 : swErr s u = 0 := by unfold swErr; rw [if_neg (by simp [z1])]; exact z2
    have s2 : swErr s v = 0 := by unfold swErr; rw [if_neg (by simp [z1])]; exact z3
    have hgc := graphed_c s u h hu
    have hgd := graphed_c s v h hv
    unfold rgraphedV at hgc hgd
    simp only [s1, ne_eq, not_true_eq_false, if_false] at hgc
    simp only [s2, ne_eq, not_true_eq_false, if_false] at hgd
    cases hg : rreachG s u with
    | none =>
      rw [hg] at hgc
      have e2 : JoinRef s u v = (false, 3) := by simp [JoinRef, h1, hg]
      rw [e2]
      simp only [rzeroV] at hgc
      try simp 
      repeat' (first
        | (refine CallX.pure (hgc) (by simp) (by simp) ?_; try simp )
        | (refine CallK.intro (hgc) (by simp) (by simp) ?_; try simp )
        | (refine CallG.intro (fun _ => hgc) (by simp) (by simp) ?_; try simp )
        | ((with_reducible refine PreK.intro ?_ ?_); (next => (first | omega | (intros; first | omega | (refine ⟨by omega, ?_⟩; repeat (first | assumption | constructor)) | assumption))); intro _; try simp )
        | fail)
      refine CondK.intro (fun h2 => ?_) (fun h2 => ?_)
      · try simp 
        repeat' (first
          | ((with_reducible refine PreK.intro ?_ ?_); (next => (first | omega | (intros; first | omega | (refine ⟨by omega, ?_⟩; repeat (first | assumption | constructor)) | assumption))); intro _; try simp )
          | fail)
      · simp at h2
    | some a =>
      rw [hg] at hgc
      simp only [rgraphV] at hgc
      have hoka := rreachG_ok s1 hg
      have hna := hoka.num
      cases hg2 : rreachG s v with
      | none =>
        rw [hg2] at hgd
        have e2 : JoinRef s u v = (false, 3) := by simp [JoinRef, h1, hg, hg2]
        rw [e2]
        simp only [rzeroV] at hgd
        try simp 
        repeat' (first
          | (refine CallX.pure (hgc) (by simp) (by simp) ?_; try simp )
          | (refine CallK.intro (hgc) (by simp) (by simp) ?_; try simp )
          | (refine CallG.intro (fun _ => hgc) (by simp) (by simp) ?_; try simp )
          | ((with_reducible refine PreK.intro ?_ ?_); (next => (first | omega | (intros; first | omega | (refine ⟨by omega, ?_⟩; repeat (first | assumption | constructor)) | assumption))); intro _; try simp )
          | fail)
        refine CondK.intro (fun h2 => ?_) (fun h2 => ?_)
        · simp at h2
        · try simp 
          repeat' (first
            | (refine CallX.pure (hgd) (by simp) (by simp) ?_; try simp )
            | (refine CallK.intro (hgd) (by simp) (by simp) ?_; try simp )
            | (refine CallG.intro (fun _ => hgd) (by simp) (by simp) ?_; try simp )
            | ((with_reducible refine PreK.intro ?_ ?_); (next => (first | omega | (intros; first | omega | (refine ⟨by omega, ?_⟩; repeat (first | assumption | constructor)) | assumption))); intro _; try simp )
            | fail)
          refine CondK.intro (fun h3 => ?_) (fun h3 => ?_)
          · try simp 
            repeat' (first
              | ((with_reducible refine PreK.intro ?_ ?_); (next => (first | omega | (intros; first | omega | (refine ⟨by omega, ?_⟩; repeat (first | assumption | constructor)) | assumption))); intro _; try simp )
              | fail)
          · simp at h3
      | some b =>
        rw [hg2] at hgd
        have hokb := rreachG_ok s2 hg2
        have hnb := hokb.num
        have e2 : JoinRef s u v = (meetB a.ws b.ws, 0) := by simp [JoinRef, h1, hg, hg2]
        rw [e2]
        have hmc := rmeet_c a.ws b.ws (by omega) (by omega) (fun x hx => by have := (wordErr_zero (hoka.fine x hx)).1; omega) (fun x hx => by have := (wordErr_zero (hokb.fine x hx)).1; omega)
        simp only [rgraphV] at hgd
        try simp 
        repeat' (first
          | (refine CallX.pure (hgc) (by simp) (by simp) ?_; try simp )
          | (refine CallK.intro (hgc) (by simp) (by simp) ?_; try simp )
          | (refine CallG.intro (fun _ => hgc) (by simp) (by simp) ?_; try simp )
          | ((with_reducible refine PreK.intro ?_ ?_); (next => (first | omega | (intros; first | omega | (refine ⟨by omega, ?_⟩; repeat (first | assumption | constructor)) | assumption))); intro _; try simp )
          | fail)
        refine CondK.intro (fun h2 => ?_) (fun h2 => ?_)
        · simp at h2
        · try simp 
          repeat' (first
            | (refine CallX.pure (hgd) (by simp) (by simp) ?_; try simp )
            | (refine CallK.intro (hgd) (by simp) (by simp) ?_; try simp )
            | (refine CallG.intro (fun _ => hgd) (by simp) (by simp) ?_; try simp )
            | ((with_reducible refine PreK.intro ?_ ?_); (next => (first | omega | (intros; first | omega | (refine ⟨by omega, ?_⟩; repeat (first | assumption | constructor)) | assumption))); intro _; try simp )
            | fail)
          refine CondK.intro (fun h3 => ?_) (fun h3 => ?_)
          · simp at h3
          · try simp 
            repeat' (first
              | (refine CallX.pure (hmc) (by simp) (by simp) ?_; try simp )
              | (refine CallK.intro (hmc) (by simp) (by simp) ?_; try simp )
              | (refine CallG.intro (fun _ => hmc) (by simp) (by simp) ?_; try simp )
              | ((with_reducible refine PreK.intro ?_ ?_); (next => (first | omega | (intros; first | omega | (refine ⟨by omega, ?_⟩; repeat (first | assumption | constructor)) | assumption))); intro _; try simp )
              | fail)
theorem meet_same {a b c d : List Word} (h1 : ∀ z, z ∈ a ↔ z ∈ c) (h2 : ∀ z, z ∈ b ↔ z ∈ d) : meetB a b = meetB c d := by
  unfold meetB
  rw [Bool.eq_iff_iff, List.any_eq_true, List.any_eq_true]
  constructor
  · rintro ⟨x, hx, hy⟩
    exact ⟨x, (h1 x).1 hx, by simpa using (h2 x).1 (by simpa using hy)⟩
  · rintro ⟨x, hx, hy⟩
    exact ⟨x, (h1 x).2 hx, by simpa using (h2 x).2 (by simpa using hy)⟩
theorem words_same {s : List Rule} {w : Word} : match reachG s w, rreachG s w with
    | some g, some r => ∀ z, z ∈ g.ws ↔ z ∈ r.ws
    | none, none => True
    | _, _ => False := by
  have h := graphs_same s w
  cases hg : reachG s w with
  | none =>
    cases hr : rreachG s w with
    | none => trivial
    | some r => rw [hg, hr] at h; exact h.elim
  | some g =>
    cases hr : rreachG s w with
    | none => rw [hg, hr] at h; exact h.elim
    | some r =>
      rw [hg, hr] at h
      obtain ⟨ws, rs, h1, h2, _, _, h5⟩ := h
      intro z
      rw [h1.words, h2.words, List.mem_map, List.mem_map]
      exact ⟨fun ⟨y, hy, e⟩ => ⟨y, (h5 y).1 hy, e⟩, fun ⟨y, hy, e⟩ => ⟨y, (h5 y).2 hy, e⟩⟩
theorem Join_same (s : List Rule) (u v : Word) : JoinRef s u v = JoinR s u v := by
  unfold JoinRef JoinR
  split
  · rfl
  · have h1 := @words_same s u
    have h2 := @words_same s v
    cases ha : reachG s u with
    | none =>
      cases hb : rreachG s u with
      | none => rfl
      | some r => rw [ha, hb] at h1; exact h1.elim
    | some g =>
      cases hb : rreachG s u with
      | none => rw [ha, hb] at h1; exact h1.elim
      | some r =>
        rw [ha, hb] at h1
        cases hc : reachG s v with
        | none =>
          cases hd : rreachG s v with
          | none => rfl
          | some r' => rw [hc, hd] at h2; exact h2.elim
        | some g' =>
          cases hd : rreachG s v with
          | none => rw [hc, hd] at h2; exact h2.elim
          | some r' =>
            rw [hc, hd] at h2
            dsimp only at h1 h2 ⊢
            rw [meet_same (fun z => (h1 z).symm) (fun z => (h2 z).symm)]
/-- A word joins those that it reaches. -/
theorem joins_law {s : List Rule} {u v : Word} (h : (JoinR s u v).2 = 0) (hp : partB [v] (ReachE s u).1 = true) : (JoinR s u v).1 = true := by
  unfold JoinR at h ⊢
  split at h
  · rename_i h1; exact absurd h h1
  · rename_i h1
    rw [if_neg h1]
    simp only [ne_eq, Decidable.not_not] at h1
    obtain ⟨z1, z2, z3⟩ := checkErr_two h1
    have s1 : swErr s u = 0 := by unfold swErr; rw [if_neg (by simp [z1])]; exact z2
    cases hg : reachG s u with
    | none => rw [hg] at h; cases h
    | some a =>
      cases hg2 : reachG s v with
      | none => rw [hg, hg2] at h; cases h
      | some b =>
        have e : ReachE s u = (uniq a.ws, 0) := by simp [ReachE, s1, hg]
        rw [e] at hp
        simp only [partB, List.all_cons, List.all_nil, Bool.and_true, List.any_eq_true, decide_eq_true_eq] at hp
        obtain ⟨y, hy, rfl⟩ := hp
        dsimp only
        unfold meetB
        rw [List.any_eq_true]
        exact ⟨v, ((uniq_sorted _).2 v).1 hy, by simpa using (closed_mem hg2).1 0 v .zero⟩
theorem lawFeedJoins_c (s : List Rule) (u v : List Int) (hb : s.length ≤ big) (hub : u.length ≤ big) (hvb : v.length ≤ big) : CallP Try.prog 6 [rulesV s, ints u, ints v] (bv true) := by
  refine C6 (by simp) ?_
  simp [A6]
  refine CallX.pure (by simpa using long3_c s hb) (by simp) (by simp) ?_
  try simp 
  cases hl : longS s
  · have hs := longS_small hl
    by_cases h2 : 100 < u.length
    · try simp 
      repeat' (first
        | (refine CallX.pure (large3_c u) (by simp) (by simp) ?_; try simp )
        | (refine CallK.intro (large3_c u) (by simp) (by simp) ?_; try simp )
        | (refine CallG.intro (fun _ => large3_c u) (by simp) (by simp) ?_; try simp )
        | ((with_reducible refine PreK.intro ?_ ?_); (next => (first | omega | (intros; first | omega | (refine ⟨by omega, ?_⟩; repeat (first | assumption | constructor)) | assumption))); intro _; try simp )
        | fail)
      refine CallG.intro (r := bv true) (fun hh => by simp [h2] at hh) (by simp [h2]) (by simp) ?_
      try simp 
      refine CondK.intro (fun h3 => ?_) (fun h3 => ?_)
      · try simp 
        repeat' (first
          | (refine CallX.pure (known_c) (by simp) (by simp) ?_; try simp )
          | (refine CallK.intro (known_c) (by simp) (by simp) ?_; try simp )
          | (refine CallG.intro (fun _ => known_c) (by simp) (by simp) ?_; try simp )
          | ((with_reducible refine PreK.intro ?_ ?_); (next => (first | omega | (intros; first | omega | (refine ⟨by omega, ?_⟩; repeat (first | assumption | constructor)) | assumption))); intro _; try simp )
          | fail)
      · simp [h2] at h3
    · try simp 
      repeat' (first
        | (refine CallX.pure (large3_c u) (by simp) (by simp) ?_; try simp )
        | (refine CallK.intro (large3_c u) (by simp) (by simp) ?_; try simp )
        | (refine CallG.intro (fun _ => large3_c u) (by simp) (by simp) ?_; try simp )
        | (refine CallX.pure (large3_c v) (by simp) (by simp) ?_; try simp )
        | (refine CallK.intro (large3_c v) (by simp) (by simp) ?_; try simp )
        | (refine CallG.intro (fun _ => large3_c v) (by simp) (by simp) ?_; try simp )
        | ((with_reducible refine PreK.intro ?_ ?_); (next => (first | omega | (intros; first | omega | (refine ⟨by omega, ?_⟩; repeat (first | assumption | constructor)) | assumption))); intro _; try simp )
        | fail)
      refine CondK.intro (fun h3 => ?_) (fun h3 => ?_)
      · try simp 
        repeat' (first
          | (refine CallX.pure (known_c) (by simp) (by simp) ?_; try simp )
          | (refine CallK.intro (known_c) (by simp) (by simp) ?_; try simp )
          | (refine CallG.intro (fun _ => known_c) (by simp) (by simp) ?_; try simp )
          | ((with_reducible refine PreK.intro ?_ ?_); (next => (first | omega | (intros; first | omega | (refine ⟨by omega, ?_⟩; repeat (first | assumption | constructor)) | assumption))); intro _; try simp )
          | fail)
      · have hvn : v.length ≤ 100 := by simp [h2] at h3; omega
        have hu : u.length ≤ 1000 := by omega
        have hv : v.length ≤ 1000 := by omega
        have h4 := Join_c s u v hs hu hv
        have h5 := rJoin_c s u v hs hu hv
        rw [Join_same] at h5
        have h6 := Reach_c s u hs hu
        have h9 := part_c [v] (ReachE s u).1 (by simp) ReachE_small.1 (by simpa using hv)
        have hF := @joins_law s u v
        generalize JoinR s u v = J at *
        generalize ReachE s u = R at *
        obtain ⟨J1, J2⟩ := J
        obtain ⟨R1, R2⟩ := R
        dsimp only at *
        try simp 
        repeat' (first
          | (refine CallX.pure (h4) (by simp) (by simp) ?_; try simp )
          | (refine CallK.intro (h4) (by simp) (by simp) ?_; try simp )
          | (refine CallG.intro (fun _ => h4) (by simp) (by simp) ?_; try simp )
          | (refine CallX.pure (h5) (by simp) (by simp) ?_; try simp )
          | (refine CallK.intro (h5) (by simp) (by simp) ?_; try simp )
          | (refine CallG.intro (fun _ => h5) (by simp) (by simp) ?_; try simp )
          | ((with_reducible refine PreK.intro ?_ ?_); (next => (first | omega | (intros; first | omega | (refine ⟨by omega, ?_⟩; repeat (first | assumption | constructor)) | assumption))); intro _; try simp )
          | fail)
        refine CondK.intro (fun h7 => ?_) (fun h7 => ?_)
        · simp at h7
        · try simp 
          repeat' (first
            | (refine CallX.pure (h6) (by simp) (by simp) ?_; try simp )
            | (refine CallK.intro (h6) (by simp) (by simp) ?_; try simp )
            | (refine CallG.intro (fun _ => h6) (by simp) (by simp) ?_; try simp )
            | ((with_reducible refine PreK.intro ?_ ?_); (next => (first | omega | (intros; first | omega | (refine ⟨by omega, ?_⟩; repeat (first | assumption | constructor)) | assumption))); intro _; try simp )
            | fail)
          by_cases h0 : J2 = 0
          · subst h0
            by_cases h00 : R2 = 0
            · subst h00
              have hF := hF rfl
              refine CondK.intro (fun h8 => ?_) (fun h8 => ?_)
              · simp at h8
              · generalize partB [v] R1 = pb at h9 hF
                simp only [wordsV, List.map_cons, List.map_nil] at h9
                try simp 
                repeat' (first
                  | (refine CallX.pure (h9) (by simp) (by simp) ?_; try simp )
                  | (refine CallK.intro (h9) (by simp) (by simp) ?_; try simp )
                  | (refine CallG.intro (fun _ => h9) (by simp) (by simp) ?_; try simp )
                  | ((with_reducible refine PreK.intro ?_ ?_); (next => (first | omega | (intros; first | omega | (refine ⟨by omega, ?_⟩; repeat (first | assumption | constructor)) | assumption))); intro _; try simp )
                  | fail)
                cases pb
                · try simp 
                  repeat' (first
                    | (refine CallX.pure (known_c) (by simp) (by simp) ?_; try simp )
                    | (refine CallK.intro (known_c) (by simp) (by simp) ?_; try simp )
                    | (refine CallG.intro (fun _ => known_c) (by simp) (by simp) ?_; try simp )
                    | ((with_reducible refine PreK.intro ?_ ?_); (next => (first | omega | (intros; first | omega | (refine ⟨by omega, ?_⟩; repeat (first | assumption | constructor)) | assumption))); intro _; try simp )
                    | fail)
                · have := hF rfl
                  subst this
                  try simp 
                  repeat' (first
                    | (refine CallX.pure (known_c) (by simp) (by simp) ?_; try simp )
                    | (refine CallK.intro (known_c) (by simp) (by simp) ?_; try simp )
                    | (refine CallG.intro (fun _ => known_c) (by simp) (by simp) ?_; try simp )
                    | ((with_reducible refine PreK.intro ?_ ?_); (next => (first | omega | (intros; first | omega | (refine ⟨by omega, ?_⟩; repeat (first | assumption | constructor)) | assumption))); intro _; try simp )
                    | fail)
            · refine CondK.intro (fun h8 => ?_) (fun h8 => ?_)
              · try simp 
                repeat' (first
                  | (refine CallX.pure (known_c) (by simp) (by simp) ?_; try simp )
                  | (refine CallK.intro (known_c) (by simp) (by simp) ?_; try simp )
                  | (refine CallG.intro (fun _ => known_c) (by simp) (by simp) ?_; try simp )
                  | ((with_reducible refine PreK.intro ?_ ?_); (next => (first | omega | (intros; first | omega | (refine ⟨by omega, ?_⟩; repeat (first | assumption | constructor)) | assumption))); intro _; try simp )
                  | fail)
              · simp [h00] at h8
          · refine CondK.intro (fun h8 => ?_) (fun h8 => ?_)
            · try simp 
              repeat' (first
                | (refine CallX.pure (known_c) (by simp) (by simp) ?_; try simp )
                | (refine CallK.intro (known_c) (by simp) (by simp) ?_; try simp )
                | (refine CallG.intro (fun _ => known_c) (by simp) (by simp) ?_; try simp )
                | ((with_reducible refine PreK.intro ?_ ?_); (next => (first | omega | (intros; first | omega | (refine ⟨by omega, ?_⟩; repeat (first | assumption | constructor)) | assumption))); intro _; try simp )
                | fail)
            · simp [h0] at h8
  · try simp 
    repeat' (first
      | ((with_reducible refine PreK.intro ?_ ?_); (next => (first | omega | (intros; first | omega | (refine ⟨by omega, ?_⟩; repeat (first | assumption | constructor)) | assumption))); intro _; try simp )
      | fail)
    refine CallG.intro (r := bv true) (fun hh => by cases hh) (by simp) (by simp) ?_
    try simp 
    refine CallG.intro (r := bv true) (fun hh => by cases hh) (by simp) (by simp) ?_
    try simp 
    refine CondK.intro (fun h3 => ?_) (fun h3 => ?_)
    · try simp 
      repeat' (first
        | (refine CallX.pure (known_c) (by simp) (by simp) ?_; try simp )
        | (refine CallK.intro (known_c) (by simp) (by simp) ?_; try simp )
        | (refine CallG.intro (fun _ => known_c) (by simp) (by simp) ?_; try simp )
        | ((with_reducible refine PreK.intro ?_ ?_); (next => (first | omega | (intros; first | omega | (refine ⟨by omega, ?_⟩; repeat (first | assumption | constructor)) | assumption))); intro _; try simp )
        | fail)
    · simp at h3
end Go.Proofs.Ytkhddecnllcaiaa
end
