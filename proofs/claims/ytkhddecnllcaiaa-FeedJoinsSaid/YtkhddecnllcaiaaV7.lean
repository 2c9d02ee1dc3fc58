/- Part 7 of the proof: the value layer and the contracts of the functions that the statement reaches; proved without conditions beyond those each theorem states. -/
import Derived.Tactics
import Derived.Tactics2
import Derived.LoopTactic
import Derived.LoopN
import Derived.Laws.IdiomRangeMap
import Derived.Maps.RangeRun
import Derived.Shelf.SlSortCmp.Whole1
import Derived.Shelf.SlSortCmp.NoneTotal
import Derived.Test.YtkhddecnllcaiaaProg
import Derived.Test.YtkhddecnllcaiaaV4
import Derived.Test.YtkhddecnllcaiaaV5
import Derived.Test.YtkhddecnllcaiaaV6
set_option linter.unusedSimpArgs false
set_option linter.unusedVariables false

section
/- PURSE -/
/- Contracts: what a word reaches. -/
namespace Go.Proofs.Ytkhddecnllcaiaa
open Go.Abs Go
set_option maxRecDepth 20000
set_option maxHeartbeats 8000000
attribute [local irreducible] PreK CondK CallK CallG CallX LoopK
attribute [local simp] avsEq avEq akind teq vkind vEq

theorem CF69 {args : List AV} {r : AV} (hn : args.length ≤ 111) (h : vc Try.prog T [] A69 (FinF T [(.tmp 4), (.tmp 5)] r) ⟨envOf 0 args, []⟩) : CallP Try.prog 69 args r :=
  callPF_of tok mixed Try.func69 (by kernel_rfl) (by kernel_rfl) (by kernel_rfl : Try.f69.ntmps = 111) (by kernel_rfl : Try.f69.body.bind (strip 111 (fun _ => [])) = some A69) hn h
def graphV (s : List Rule) (g : Gr) : AV := .agg [rulesV s, wordsV g.ws, .map (entsF 0 g.ws), ints g.frm, stepsV g.stp]
def reachV (s : List Rule) : Option Gr → AV
  | none => .tup [.raw (.pointer none), iv 3]
  | some g => .tup [.ipt (graphV s g) 0, iv 0]
def gV (k : Bool) (s : List Rule) (g : Gr) : AV := .agg [rulesV s, .seq 1 (g.ws.map ints) k, .map (entsF 0 g.ws), .seq 1 (g.frm.map iv) k, .seq 2 (g.stp.map stepV) k]
def reachX (s : List Rule) : Option Gr → AV
  | none => .tup [.raw (.pointer none), iv 3]
  | some g => .tup [.ipt (gV (decide (g.ws.length = 1)) s g) 0, iv 0]
def boxT (s : List Rule) (g : Gr) : List (Nat × Option Box) := [(23, some ⟨5, [.agg [rulesV s, .seq 1 (g.ws.map ints) true, .mp 15 1, .seq 1 (g.frm.map iv) true, .seq 2 (g.stp.map stepV) true]], 1, true⟩), (15, some ⟨0, entsF 0 g.ws, 1, false⟩)]
def boxF (s : List Rule) (g : Gr) (v : Nat) : List (Nat × Option Box) := [(23, some ⟨5, [.agg [rulesV s, .sl 87 v 0 g.ws.length, .mp 15 1, .sl 94 v 0 g.frm.length, .sl 102 v 0 g.stp.length]], 1, true⟩), (15, some ⟨0, entsF 0 g.ws, 1, false⟩), (87, some ⟨1, g.ws.map ints, v, false⟩), (94, some ⟨1, g.frm.map iv, v, false⟩), (102, some ⟨2, g.stp.map stepV, v, false⟩)]
attribute [local simp] boxT boxF entsF
theorem reach_x (s : List Rule) (w : List Int) (h : Sys.small s) (hs : sysErr s = 0) (hw : wordErr w = 0) : CallP Try.prog 69 [rulesV s, ints w] (reachX s (reachG s w)) := by
  refine CF69 (by simp) ?_
  have hkw := key_c w (by have := (wordErr_zero hw).1; omega) (fine_of hw)
  generalize hR : reachG s w = R
  unfold reachG at hR
  have hok0 := Gr.start hw
  have hk0 : decide ((⟨[w], [-1], [⟨0, 0⟩]⟩ : Gr).ws.length = 1) = true := rfl
  generalize hg0 : (⟨[w], [-1], [⟨0, 0⟩]⟩ : Gr) = g0 at hR hok0 hk0
  simp [A69]
  try simp 
  repeat' (first
    | (refine CallX.pure (hkw) (by simp) (by simp) ?_; try simp )
    | (refine CallK.intro (hkw) (by simp) (by simp) ?_; try simp )
    | (refine CallG.intro (fun _ => hkw) (by simp) (by simp) ?_; try simp )
    | ((with_reducible refine PreK.intro ?_ ?_); (next => (first | omega | (intros; first | omega | (refine ⟨by omega, ?_⟩; repeat (first | assumption | constructor)) | assumption))); intro _; try simp )
    | fail)
  refine PreK.intro (by simp [big]) fun _ => ?_
  try simp 
  try simp 
  repeat' (first
    | ((with_reducible refine PreK.intro ?_ ?_); (next => (first | omega | (intros; first | omega | (refine ⟨by omega, ?_⟩; repeat (first | assumption | constructor)) | assumption))); intro _; try simp )
    | fail)
  refine LoopK.by (ι := Bool × Nat × Nat × Gr) (fun x => match x with
      | (true, i, _, g) => ⟨[(7, iv i), (6, .pt 23 1 0 0), (0, rulesV s)], boxT s g⟩
      | (false, i, v, g) => ⟨[(7, iv i), (6, .pt 23 1 0 0), (0, rulesV s)], boxF s g v⟩)
    (fun x => 400 - x.2.1) (fun x => (decide (x.2.2.2.ws.length = 1) = x.1) ∧ x.2.2.2.ok ∧ x.2.1 ≤ x.2.2.2.ws.length ∧ closeG s (301 - x.2.1) x.2.1 x.2.2.2 = R) (true, 0, 0, g0) ⟨hk0, hok0, by simp, hR⟩ (by subst hg0; simp) ?_
  intro ⟨kd, i, v, g⟩ Q' ⟨hk, hok, hi, hc⟩ hq he hr
  dsimp only at hk hok hi hc
  have hnum := hok.num
  have hfl := hok.frm
  have hsl := hok.stp
  obtain ⟨n, hn⟩ : ∃ n, 301 - i = n + 1 := ⟨300 - i, by omega⟩
  rw [hn, closeG] at hc
  by_cases hi2 : i < g.ws.length
  · rw [if_pos hi2] at hc
    have hui := hok.fine _ (el_mem_of g.ws i hi2)
    have hmc := moves_c s (el g.ws i) h hs hui
    have hmr := fun m hm => @moves_right s (el g.ws i) hs hui m hm
    have hml := movesM_len hs hui
    generalize movesM s (el g.ws i) = ms at hmc hmr hc hml
    generalize hRA : addG i g ms = RA at hc
    cases kd
    · try simp 
      refine CondK.intro (fun h1 => ?_) (fun h1 => ?_)
      · repeat (refine PreK.intro (by first | omega | (intros; first | omega | (refine ⟨by omega, ?_⟩; simp_all; done) | (simp_all; done) | (simp_all; omega))) fun _ => ?_; (try simp [hi2]))
        try simp [hi2]
        repeat' (first
          | (refine CallX.pure (hmc) (by simp) (by simp) ?_; try simp [hi2])
          | (refine CallK.intro (hmc) (by simp) (by simp) ?_; try simp [hi2])
          | (refine CallG.intro (fun _ => hmc) (by simp) (by simp) ?_; try simp [hi2])
          | ((with_reducible refine PreK.intro ?_ ?_); (next => (first | omega | (intros; first | omega | (refine ⟨by omega, ?_⟩; repeat (first | assumption | constructor)) | assumption))); intro _; try simp [hi2])
          | fail)
        refine LoopK.by (ι := Nat × Nat × Gr) (fun x => ⟨[(43, iv x.1), (42, iv ms.length), (41, movesV ms), (7, iv i), (6, .pt 23 1 0 0), (0, rulesV s)], boxF s x.2.2 x.2.1⟩)
          (fun x => ms.length - x.1) (fun x => (decide (x.2.2.ws.length = 1) = false) ∧ x.2.2.ok ∧ i + 1 ≤ x.2.2.ws.length ∧ addG i x.2.2 (ms.drop x.1) = RA) (0, v, g) ⟨hk, hok, hi2, hRA⟩ (by simp) ?_
        intro ⟨j, v', g'⟩ Q'' ⟨hk', hok', hi', ha⟩ hq' he' hr'
        dsimp only at hk' hok' hi' ha
        try simp 
        refine CondK.intro (fun h2 => ?_) (fun h2 => ?_)
        · simp at h2
          have hmw := hmr (el ms j) (el_mem_of ms j h2)
          rw [drop_cons ms j h2, addG] at ha
          have hkc := key_c (el ms j).word (by have := (wordErr_zero hmw).1; omega) (fine_of hmw)
          repeat (refine PreK.intro (by first | omega | (intros; first | omega | (refine ⟨by omega, ?_⟩; simp_all; done) | (simp_all; done) | (simp_all; omega))) fun _ => ?_; (try simp [h2]))
          by_cases hmem : (el ms j).word ∈ g'.ws
          · obtain ⟨q, q1, q2, q3⟩ := mfind_some (k := 0) (j := 0) (fun x hx => fine_of (hok'.fine x hx)) hmem
            rw [if_pos hmem] at ha
            refine CallK.intro (by simpa using hkc) (by simp) (by simp) ?_
            try simp [q3, keysOK_ents]
            repeat (refine PreK.intro (by first | omega | (intros; first | omega | (refine ⟨by omega, ?_⟩; simp_all; done) | (simp_all; done) | (simp_all; omega))) fun _ => ?_; (try simp [q3, keysOK_ents]))
            refine CondK.intro (fun h3 => ?_) (fun h3 => ?_)
            · repeat (refine PreK.intro (by first | omega | (intros; first | omega | (refine ⟨by omega, ?_⟩; simp_all; done) | (simp_all; done) | (simp_all; omega))) fun _ => ?_; (try simp ))
              exact hq' (j + 1, v', g') _ ⟨hk', hok', hi', ha⟩ (by dsimp only; omega) (by simp)
            · simp at h3
          · have q3 := mfind_none (k := 0) (j := 0) (fun x hx => fine_of (hok'.fine x hx)) (fine_of hmw) hmem
            rw [if_neg hmem] at ha
            refine CallK.intro (by simpa using hkc) (by simp) (by simp) ?_
            try simp [q3, keysOK_ents]
            repeat (refine PreK.intro (by first | omega | (intros; first | omega | (refine ⟨by omega, ?_⟩; simp_all; done) | (simp_all; done) | (simp_all; omega))) fun _ => ?_; (try simp [q3, keysOK_ents]))
            refine CondK.intro (fun h3 => ?_) (fun h3 => ?_)
            · simp at h3
            · repeat (refine PreK.intro (by first | omega | (intros; first | omega | (refine ⟨by omega, ?_⟩; simp_all; done) | (simp_all; done) | (simp_all; omega))) fun _ => ?_; (try simp ))
              by_cases h300 : g'.ws.length = 300
              · rw [if_pos h300] at ha
                subst ha
                refine CondK.intro (fun h4 => ?_) (fun h4 => ?_)
                · try simp 
                  apply hr'
                  apply hr
                  refine ⟨[], ?_⟩
                  simp [reachX, ← hc]
                · simp at h4; omega
              · rw [if_neg h300] at ha
                have hlen1 := hok'.num
                have hlen2 := hok'.frm
                have hlen3 := hok'.stp
                refine CondK.intro (fun h4 => ?_) (fun h4 => ?_)
                · simp at h4; omega
                · repeat (refine PreK.intro (by first | omega | (intros; first | omega | (refine ⟨by omega, ?_⟩; simp_all; done) | (simp_all; done) | (simp_all; omega))) fun _ => ?_; (try simp ))
                  refine CallK.intro (by simpa using hkc) (by simp) (by simp) ?_
                  try simp [q3, keysOK_ents, entsF_len]
                  refine PreK.intro (by simp only [big]; omega) fun _ => ?_
                  try simp 
                  repeat (refine PreK.intro (by first | omega | (intros; first | omega | (refine ⟨by omega, ?_⟩; simp_all; done) | (simp_all; done) | (simp_all; omega))) fun _ => ?_; (try simp [q3, keysOK_ents, entsF_len]))
                  refine hq' (j + 1, v' + 1, ⟨g'.ws ++ [(el ms j).word], g'.frm ++ [(i : Int)], g'.stp ++ [(el ms j).step]⟩) _ ⟨by have := hok'.some; simp only [decide_eq_false_iff_not, List.length_append, List.length_cons, List.length_nil]; omega, hok'.push hmw h300, by simp; omega, ha⟩ (by dsimp only; omega) (by simp [q3, entsF_push])
        · simp at h2
          rw [List.drop_eq_nil_of_le (by omega), addG] at ha
          subst ha
          try simp 
          apply he'
          try simp 
          repeat' (first
            | ((with_reducible refine PreK.intro ?_ ?_); (next => (first | omega | (intros; first | omega | (refine ⟨by omega, ?_⟩; repeat (first | assumption | constructor)) | assumption))); intro _; try simp )
            | fail)
          exact hq (false, i + 1, v', g') _ ⟨hk', hok', hi', by dsimp only; rw [show 301 - (i + 1) = n by omega]; exact hc⟩ (by dsimp only; omega) (by simp)
      · simp at h1
        omega
    · try simp 
      refine CondK.intro (fun h1 => ?_) (fun h1 => ?_)
      · repeat (refine PreK.intro (by first | omega | (intros; first | omega | (refine ⟨by omega, ?_⟩; simp_all; done) | (simp_all; done) | (simp_all; omega))) fun _ => ?_; (try simp [hi2]))
        try simp [hi2]
        repeat' (first
          | (refine CallX.pure (hmc) (by simp) (by simp) ?_; try simp [hi2])
          | (refine CallK.intro (hmc) (by simp) (by simp) ?_; try simp [hi2])
          | (refine CallG.intro (fun _ => hmc) (by simp) (by simp) ?_; try simp [hi2])
          | ((with_reducible refine PreK.intro ?_ ?_); (next => (first | omega | (intros; first | omega | (refine ⟨by omega, ?_⟩; repeat (first | assumption | constructor)) | assumption))); intro _; try simp [hi2])
          | fail)
        refine LoopK.by (ι := Bool × Nat × Nat × Gr) (fun x => match x with
            | (true, j, _, g') => ⟨[(43, iv j), (42, iv ms.length), (41, movesV ms), (7, iv i), (6, .pt 23 1 0 0), (0, rulesV s)], boxT s g'⟩
            | (false, j, v', g') => ⟨[(43, iv j), (42, iv ms.length), (41, movesV ms), (7, iv i), (6, .pt 23 1 0 0), (0, rulesV s)], boxF s g' v'⟩)
          (fun x => ms.length - x.2.1) (fun x => (decide (x.2.2.2.ws.length = 1) = x.1) ∧ x.2.2.2.ok ∧ i + 1 ≤ x.2.2.2.ws.length ∧ addG i x.2.2.2 (ms.drop x.2.1) = RA) (true, 0, v, g) ⟨hk, hok, hi2, hRA⟩ (by simp) ?_
        intro ⟨kd', j, v', g'⟩ Q'' ⟨hk', hok', hi', ha⟩ hq' he' hr'
        dsimp only at hk' hok' hi' ha
        cases kd'
        · try simp 
          refine CondK.intro (fun h2 => ?_) (fun h2 => ?_)
          · simp at h2
            have hmw := hmr (el ms j) (el_mem_of ms j h2)
            rw [drop_cons ms j h2, addG] at ha
            have hkc := key_c (el ms j).word (by have := (wordErr_zero hmw).1; omega) (fine_of hmw)
            repeat (refine PreK.intro (by first | omega | (intros; first | omega | (refine ⟨by omega, ?_⟩; simp_all; done) | (simp_all; done) | (simp_all; omega))) fun _ => ?_; (try simp [h2]))
            by_cases hmem : (el ms j).word ∈ g'.ws
            · obtain ⟨q, q1, q2, q3⟩ := mfind_some (k := 0) (j := 0) (fun x hx => fine_of (hok'.fine x hx)) hmem
              rw [if_pos hmem] at ha
              refine CallK.intro (by simpa using hkc) (by simp) (by simp) ?_
              try simp [q3, keysOK_ents]
              repeat (refine PreK.intro (by first | omega | (intros; first | omega | (refine ⟨by omega, ?_⟩; simp_all; done) | (simp_all; done) | (simp_all; omega))) fun _ => ?_; (try simp [q3, keysOK_ents]))
              refine CondK.intro (fun h3 => ?_) (fun h3 => ?_)
              · repeat (refine PreK.intro (by first | omega | (intros; first | omega | (refine ⟨by omega, ?_⟩; simp_all; done) | (simp_all; done) | (simp_all; omega))) fun _ => ?_; (try simp ))
                exact hq' (false, j + 1, v', g') _ ⟨hk', hok', hi', ha⟩ (by dsimp only; omega) (by simp)
              · simp at h3
            · have q3 := mfind_none (k := 0) (j := 0) (fun x hx => fine_of (hok'.fine x hx)) (fine_of hmw) hmem
              rw [if_neg hmem] at ha
              refine CallK.intro (by simpa using hkc) (by simp) (by simp) ?_
              try simp [q3, keysOK_ents]
              repeat (refine PreK.intro (by first | omega | (intros; first | omega | (refine ⟨by omega, ?_⟩; simp_all; done) | (simp_all; done) | (simp_all; omega))) fun _ => ?_; (try simp [q3, keysOK_ents]))
              refine CondK.intro (fun h3 => ?_) (fun h3 => ?_)
              · simp at h3
              · repeat (refine PreK.intro (by first | omega | (intros; first | omega | (refine ⟨by omega, ?_⟩; simp_all; done) | (simp_all; done) | (simp_all; omega))) fun _ => ?_; (try simp ))
                by_cases h300 : g'.ws.length = 300
                · rw [if_pos h300] at ha
                  subst ha
                  refine CondK.intro (fun h4 => ?_) (fun h4 => ?_)
                  · try simp 
                    apply hr'
                    apply hr
                    refine ⟨[], ?_⟩
                    simp [reachX, ← hc]
                  · simp at h4; omega
                · rw [if_neg h300] at ha
                  have hlen1 := hok'.num
                  have hlen2 := hok'.frm
                  have hlen3 := hok'.stp
                  refine CondK.intro (fun h4 => ?_) (fun h4 => ?_)
                  · simp at h4; omega
                  · repeat (refine PreK.intro (by first | omega | (intros; first | omega | (refine ⟨by omega, ?_⟩; simp_all; done) | (simp_all; done) | (simp_all; omega))) fun _ => ?_; (try simp ))
                    refine CallK.intro (by simpa using hkc) (by simp) (by simp) ?_
                    try simp [q3, keysOK_ents, entsF_len]
                    refine PreK.intro (by simp only [big]; omega) fun _ => ?_
                    try simp 
                    repeat (refine PreK.intro (by first | omega | (intros; first | omega | (refine ⟨by omega, ?_⟩; simp_all; done) | (simp_all; done) | (simp_all; omega))) fun _ => ?_; (try simp [q3, keysOK_ents, entsF_len]))
                    refine hq' (false, j + 1, v' + 1, ⟨g'.ws ++ [(el ms j).word], g'.frm ++ [(i : Int)], g'.stp ++ [(el ms j).step]⟩) _ ⟨by have := hok'.some; simp only [decide_eq_false_iff_not, List.length_append, List.length_cons, List.length_nil]; omega, hok'.push hmw h300, by simp; omega, ha⟩ (by dsimp only; omega) (by simp [q3, entsF_push])
          · simp at h2
            rw [List.drop_eq_nil_of_le (by omega), addG] at ha
            subst ha
            try simp 
            apply he'
            try simp 
            repeat' (first
              | ((with_reducible refine PreK.intro ?_ ?_); (next => (first | omega | (intros; first | omega | (refine ⟨by omega, ?_⟩; repeat (first | assumption | constructor)) | assumption))); intro _; try simp )
              | fail)
            exact hq (false, i + 1, v', g') _ ⟨hk', hok', hi', by dsimp only; rw [show 301 - (i + 1) = n by omega]; exact hc⟩ (by dsimp only; omega) (by simp)
        · try simp 
          refine CondK.intro (fun h2 => ?_) (fun h2 => ?_)
          · simp at h2
            have hmw := hmr (el ms j) (el_mem_of ms j h2)
            rw [drop_cons ms j h2, addG] at ha
            have hkc := key_c (el ms j).word (by have := (wordErr_zero hmw).1; omega) (fine_of hmw)
            repeat (refine PreK.intro (by first | omega | (intros; first | omega | (refine ⟨by omega, ?_⟩; simp_all; done) | (simp_all; done) | (simp_all; omega))) fun _ => ?_; (try simp [h2]))
            by_cases hmem : (el ms j).word ∈ g'.ws
            · obtain ⟨q, q1, q2, q3⟩ := mfind_some (k := 0) (j := 0) (fun x hx => fine_of (hok'.fine x hx)) hmem
              rw [if_pos hmem] at ha
              refine CallK.intro (by simpa using hkc) (by simp) (by simp) ?_
              try simp [q3, keysOK_ents]
              repeat (refine PreK.intro (by first | omega | (intros; first | omega | (refine ⟨by omega, ?_⟩; simp_all; done) | (simp_all; done) | (simp_all; omega))) fun _ => ?_; (try simp [q3, keysOK_ents]))
              refine CondK.intro (fun h3 => ?_) (fun h3 => ?_)
              · repeat (refine PreK.intro (by first | omega | (intros; first | omega | (refine ⟨by omega, ?_⟩; simp_all; done) | (simp_all; done) | (simp_all; omega))) fun _ => ?_; (try simp ))
                exact hq' (true, j + 1, v', g') _ ⟨hk', hok', hi', ha⟩ (by dsimp only; omega) (by simp)
              · simp at h3
            · have q3 := mfind_none (k := 0) (j := 0) (fun x hx => fine_of (hok'.fine x hx)) (fine_of hmw) hmem
              rw [if_neg hmem] at ha
              refine CallK.intro (by simpa using hkc) (by simp) (by simp) ?_
              try simp [q3, keysOK_ents]
              repeat (refine PreK.intro (by first | omega | (intros; first | omega | (refine ⟨by omega, ?_⟩; simp_all; done) | (simp_all; done) | (simp_all; omega))) fun _ => ?_; (try simp [q3, keysOK_ents]))
              refine CondK.intro (fun h3 => ?_) (fun h3 => ?_)
              · simp at h3
              · repeat (refine PreK.intro (by first | omega | (intros; first | omega | (refine ⟨by omega, ?_⟩; simp_all; done) | (simp_all; done) | (simp_all; omega))) fun _ => ?_; (try simp ))
                by_cases h300 : g'.ws.length = 300
                · rw [if_pos h300] at ha
                  subst ha
                  refine CondK.intro (fun h4 => ?_) (fun h4 => ?_)
                  · try simp 
                    apply hr'
                    apply hr
                    refine ⟨[], ?_⟩
                    simp [reachX, ← hc]
                  · simp at h4; omega
                · rw [if_neg h300] at ha
                  have hlen1 := hok'.num
                  have hlen2 := hok'.frm
                  have hlen3 := hok'.stp
                  refine CondK.intro (fun h4 => ?_) (fun h4 => ?_)
                  · simp at h4; omega
                  · repeat (refine PreK.intro (by first | omega | (intros; first | omega | (refine ⟨by omega, ?_⟩; simp_all; done) | (simp_all; done) | (simp_all; omega))) fun _ => ?_; (try simp ))
                    refine CallK.intro (by simpa using hkc) (by simp) (by simp) ?_
                    try simp [q3, keysOK_ents, entsF_len]
                    refine PreK.intro (by simp only [big]; omega) fun _ => ?_
                    try simp 
                    repeat (refine PreK.intro (by first | omega | (intros; first | omega | (refine ⟨by omega, ?_⟩; simp_all; done) | (simp_all; done) | (simp_all; omega))) fun _ => ?_; (try simp [q3, keysOK_ents, entsF_len]))
                    refine hq' (false, j + 1, 1, ⟨g'.ws ++ [(el ms j).word], g'.frm ++ [(i : Int)], g'.stp ++ [(el ms j).step]⟩) _ ⟨by have := hok'.some; simp only [decide_eq_false_iff_not, List.length_append, List.length_cons, List.length_nil]; omega, hok'.push hmw h300, by simp; omega, ha⟩ (by dsimp only; omega) (by simp [q3, entsF_push])
          · simp at h2
            rw [List.drop_eq_nil_of_le (by omega), addG] at ha
            subst ha
            try simp 
            apply he'
            try simp 
            repeat' (first
              | ((with_reducible refine PreK.intro ?_ ?_); (next => (first | omega | (intros; first | omega | (refine ⟨by omega, ?_⟩; repeat (first | assumption | constructor)) | assumption))); intro _; try simp )
              | fail)
            exact hq (true, i + 1, v', g') _ ⟨hk', hok', hi', by dsimp only; rw [show 301 - (i + 1) = n by omega]; exact hc⟩ (by dsimp only; omega) (by simp)
      · simp at h1
        omega
  · rw [if_neg hi2] at hc
    cases kd
    · try simp 
      refine CondK.intro (fun h1 => ?_) (fun h1 => ?_)
      · simp at h1
        omega
      · try simp 
        apply he
        try simp 
        refine ⟨[87, 94, 102, 15, 23], ?_⟩
        simp [reachX, gV, ← hc, hk]
    · try simp 
      refine CondK.intro (fun h1 => ?_) (fun h1 => ?_)
      · simp at h1
        omega
      · try simp 
        apply he
        try simp 
        refine ⟨[15, 23], ?_⟩
        simp [reachX, gV, ← hc, hk]
end Go.Proofs.Ytkhddecnllcaiaa
end

section
/- Contract: whether two words reach a common one: a walk over the entries of a map, in any order. -/
namespace Go.Proofs.Ytkhddecnllcaiaa
open Go.Abs Go

/-- A world that differs by draws alone. -/
def Drw (w1 w : World) : Prop := w1.heap = w.heap ∧ w1.os = w.os ∧ w1.output = w.output ∧ w1.tape = w.tape ∧ w.drawn ≤ w1.drawn
theorem Drw.trans {a b c : World} (h : Drw a b) (k : Drw b c) : Drw a c := ⟨h.1.trans k.1, h.2.1.trans k.2.1, h.2.2.1.trans k.2.2.1, h.2.2.2.1.trans k.2.2.2.1, Nat.le_trans k.2.2.2.2 h.2.2.2.2⟩
theorem setBlock_last (w : World) (x y : Obj) : ChangeMaps.setBlock (w.alloc x) w.heap.size y = w.alloc y := by
  have hp : ∀ (h : Array Obj) (x y : Obj), (h.push x).setIfInBounds h.size y = h.push y := by
    intro h x y
    apply Array.toList_inj.1
    simp
  show ({ w.alloc x with heap := (w.heap.push x).setIfInBounds w.heap.size y } : World) = _
  rw [hp]
  rfl
theorem next_map2 {P : Program} (w : World) (ty : TypeId) (bm since c0 : Nat) (seen : Array Nat) (es : Array MapEntry) (clock : Nat) (hb : w.heap[bm]? = some (.map es clock)) (hold : ∀ x ∈ es.toList, x.born < since) (hsc : since ≤ c0) :
    ((leftOf es seen).size = 0 ∧ (Instr.next (.pointer (some ⟨w.heap.size, 0, none⟩)) false ty).run P (w.alloc (.mapIter (some bm) since seen c0)) = .ok (.tuple #[.bool false]) (w.alloc (.mapIter (some bm) since seen c0))) ∨
    ∃ e ∈ (leftOf es seen).toList, ∃ w1 : World, Drw w1 w ∧ (Instr.next (.pointer (some ⟨w.heap.size, 0, none⟩)) false ty).run P (w.alloc (.mapIter (some bm) since seen c0)) = .ok (.tuple #[.bool true, e.key, e.val]) (w1.alloc (.mapIter (some bm) since (seen.push e.born) clock)) := by
  have hlt : bm < w.heap.size := lt_of_heap hb
  have hb' : (w.alloc (.mapIter (some bm) since seen c0)).heap[bm]? = some (.map es clock) := by rw [Go.Abs.alloc_old w _ hlt, hb]
  rcases run_next_at (P := P) (w.alloc (.mapIter (some bm) since seen c0)) ty w.heap.size bm since c0 seen es clock (Go.Abs.alloc_new w _) hb' hold hsc with h | ⟨e, he, w1, hw1, hrun⟩
  · exact .inl h
  · right
    rcases hw1 with rfl | rfl
    · exact ⟨e, he, w, ⟨rfl, rfl, rfl, rfl, Nat.le_refl _⟩, by rw [hrun, setBlock_last]⟩
    · exact ⟨e, he, w.drew, ⟨rfl, rfl, rfl, rfl, Nat.le_succ _⟩, by rw [hrun]; exact congrArg _ (setBlock_last w.drew _ _)⟩
/-- Whether there is a value under a string key. -/
theorem look_at {W : World} {X : Nat → Prop} {l : List AV} {g clock : Nat} {es : Array MapEntry} (hb : W.heap[g]? = some (.map es clock)) (hs : es.size = l.length)
    (hr : ∀ i, i < l.length → Rep W X Mu.none (l.getD i .junk) (entV es i)) (hk : keysOK .str l = true) (k : ByteArray) :
    ∃ vv, (Instr.lookup 91 (.map (some g)) (.string k) true).run Try.prog W = .ok (.tuple #[vv, .bool (mfind (.str k) l 0).isSome]) W := by
  obtain ⟨hd, hR⟩ := map_desc (t := 91) (kk := .str) tok (by simp [tknown, T_91]) (by simp [tkind, T_91]; exact ⟨rfl, rfl⟩)
  have hr' : ∀ i, i < l.length → Rep W X Mu.none (l.getD i .junk) ((es.toList.map entP).getD i undef) := fun i hi => by rw [entV_list]; exact hr i hi
  have hkeys := keysOK_rep (kk := .str) (es := es.toList) (by simpa using hs) hr' hk
  have hfind := hR.fnd (.string k) (.str k) es.toList W rfl rfl hkeys
  have hchk := hR.chk es.isEmpty (.string k) (.str k) W rfl rfl
  obtain ⟨z, hz, _⟩ := (tok 3 _ T_3).run_zero W
  rcases mfind_rep (k := .str k) (es := es.toList) (by simpa using hs) hr' hk 0 with ⟨h1, h2⟩ | ⟨j, av, vv, h1, h2, _, h4⟩
  · rw [h2] at hfind
    rw [h1]
    exact ⟨z, by simp [Instr.lookup, run_underlying hd, MapKept.run_getObj_map hb, hchk, hfind, hz]⟩
  · rw [h2] at hfind
    rw [h1]
    exact ⟨vv, by simp [Instr.lookup, run_underlying hd, MapKept.run_getObj_map hb, hchk, hfind]⟩
/-- A graph in memory: where its map is. -/
theorem graph_at {w : World} {X : Nat → Prop} {s : List Rule} {g : Gr} {v : Value} (h : Rep w X Mu.none (.ipt (graphV s g) 0) v) :
    ∃ p o gm es clock, v = .pointer (some ⟨p, o, none⟩) ∧ (∃ c el fr, w.heap[p]? = some (.cells c el fr) ∧ o + 5 ≤ c.size ∧ c.getD (o + 2) undef = .map (some gm)) ∧ w.heap[gm]? = some (.map es clock) ∧ Stamp es clock g.ws.length ∧
      ∀ i, i < (entsF 0 g.ws).length → Rep w X Mu.none ((entsF 0 g.ws).getD i .junk) (entV es i) := by
  cases h with
  | @ipt _ _ _ b off c el fr hX hb hfit h1 h2 =>
    have hw : (graphV s g).width = 5 := rfl
    rw [hw] at hfit
    have h3 := rep_cell (o := 2) h2 (by rw [hw]; exact hfit) (by rw [hw]; omega)
    have h4 : Rep w X Mu.none (.map (entsF 0 g.ws)) (c.getD (off + 2) undef) := h3
    generalize hv : c.getD (off + 2) undef = u at h4
    cases h4 with
    | map hY hbm hs hbig hr =>
      exact ⟨b, off, _, _, _, rfl, ⟨c, el, fr, hb, hfit, hv⟩, hbm, by simpa [entsF_len] using hs, hr⟩
/-- Whether an entry's key is one of these words'. -/
def hitM (l : List Word) (x : MapEntry) : Bool := match x.key with
  | .string k => (mfind (.str k) (entsF 0 l) 0).isSome
  | _ => false
theorem entsF_at : ∀ (l : List Word) (k i : Nat), i < l.length → (entsF k l).getD i .junk = .tup [keyV (el l i), iv ((k + i : Nat) : Int)]
  | x :: l, k, 0, _ => by simp [entsF, el]
  | x :: l, k, i + 1, h => by
    have := entsF_at l (k + 1) i (by simpa using h)
    simp only [entsF, List.getD_cons_succ]
    rw [this, show k + 1 + i = k + (i + 1) by omega]
    rfl
theorem ent_key {w : World} {X : Nat → Prop} {x : Word} {n : Int} {es : Array MapEntry} {i : Nat} (hi : i < es.size) (h : Rep w X Mu.none (.tup [keyV x, iv n]) (entV es i)) : es[i].key = .string (keyS x) := by
  have e : entV es i = .tuple #[es[i].key, es[i].val] := by
    unfold entV entP
    simp [Array.getD_eq_getD_getElem?, hi]
  rw [e] at h
  cases h with
  | tup hs hh =>
    have := hh 0 (by simp)
    simp only [keyV, List.getD_cons_zero] at this
    have := this.one.1
    simpa [Array.getD_eq_getD_getElem?] using this
theorem hit_word {l : List Word} {k x : Word} {e : MapEntry} (hl : ∀ y ∈ l, fine y) (hx : fine x) (he : e.key = .string (keyS x)) : hitM l e = decide (x ∈ l) := by
  unfold hitM
  rw [he]
  by_cases h : x ∈ l
  · obtain ⟨i, _, _, h3⟩ := mfind_some (k := 0) (j := 0) hl h
    simp [h3, h]
  · have := mfind_none (k := 0) (j := 0) hl hx h
    simp [this, h]
theorem hit_any {w : World} {X : Nat → Prop} {a b : List Word} {es : Array MapEntry} (ha : ∀ y ∈ a, fine y) (hb : ∀ y ∈ b, fine y) (hs : es.size = a.length) (hr : ∀ i, i < (entsF 0 a).length → Rep w X Mu.none ((entsF 0 a).getD i .junk) (entV es i)) :
    (es.toList.any (hitM b)) = a.any fun x => decide (x ∈ b) := by
  have hkey : ∀ i (hi : i < es.size), es[i].key = .string (keyS (el a i)) := by
    intro i hi
    have := hr i (by rw [entsF_len]; omega)
    rw [entsF_at a 0 i (by omega)] at this
    exact ent_key hi this
  rw [Bool.eq_iff_iff, List.any_eq_true, List.any_eq_true]
  constructor
  · rintro ⟨e, he, hh⟩
    obtain ⟨i, hi, rfl⟩ := List.getElem_of_mem he
    have hi' : i < es.size := by simpa using hi
    have hm : el a i ∈ a := el_mem_of a i (by omega)
    have hk := hkey i hi'
    rw [Array.getElem_toList] at hh
    rw [hit_word (k := []) hb (ha _ hm) hk] at hh
    exact ⟨_, hm, hh⟩
  · rintro ⟨x, hx, hh⟩
    obtain ⟨i, hi, rfl⟩ := List.getElem_of_mem hx
    have hi' : i < es.size := by omega
    refine ⟨es[i], by simp, ?_⟩
    rw [hit_word (k := []) hb (ha _ hx) (by rw [hkey i hi', el_eq _ _ hi])]
    exact hh
theorem ent_string {w : World} {X : Nat → Prop} {a : List Word} {es : Array MapEntry} (hs : es.size = a.length) (hr : ∀ i, i < (entsF 0 a).length → Rep w X Mu.none ((entsF 0 a).getD i .junk) (entV es i)) {e : MapEntry} (he : e ∈ es.toList) : ∃ k, e.key = .string k := by
  obtain ⟨i, hi, rfl⟩ := List.getElem_of_mem he
  have hi' : i < es.size := by simpa using hi
  have := hr i (by rw [entsF_len]; omega)
  rw [entsF_at a 0 i (by omega)] at this
  exact ⟨_, by simpa using ent_key hi' this⟩

set_option maxRecDepth 1000000 in
theorem meet_walk (pa oa ga ca pb ob gb : Nat) (esa : Array MapEntry) (b : List Word) (w : World) (hga : w.heap[ga]? = some (.map esa ca)) (hst : Stamp esa ca esa.size)
    (hka : ∀ e ∈ esa.toList, ∃ k, e.key = .string k)
    (hA : ∀ (w1 : World) (o : Obj), Drw w1 w → (w1.alloc o).cell? ⟨pa, oa + 2, none⟩ = some (.map (some ga)))
    (hA0 : w.cell? ⟨pa, oa + 2, none⟩ = some (.map (some ga)))
    (hB : ∀ (w1 : World) (o : Obj), Drw w1 w → (w1.alloc o).cell? ⟨pb, ob + 2, none⟩ = some (.map (some gb)))
    (hL : ∀ (w1 : World) (o : Obj), Drw w1 w → ∀ k, ∃ vv, (Instr.lookup 91 (.map (some gb)) (.string k) true).run Try.prog (w1.alloc o) = .ok (.tuple #[vv, .bool (mfind (.str k) (entsF 0 b) 0).isSome]) (w1.alloc o)) :
    Calls Try.prog 73 #[.pointer (some ⟨pa, oa, none⟩), .pointer (some ⟨pb, ob, none⟩)] w fun e w' => e = .returned (.bool (esa.toList.any (hitM b))) ∧ ∃ (w1 : World) (seen : Array Nat), Drw w1 w ∧ w' = w1.alloc (.mapIter (some ga) ca seen ca) := by
  obtain ⟨_, hold, hnd⟩ := hst
  obtain ⟨kt, et, hu⟩ : ∃ k e, Try.prog.underlying 91 = some (.map k e) := by
    obtain ⟨d, hd, hk⟩ := (tok 91 _ T_91).desc
    exact ⟨_, _, hk.1 ▸ hd⟩
  have hrg := run_range_map (P := Try.prog) w 91 kt et ga esa ca hu hga
  go_enter Try.func73, Try.ntmps73
  go_wp2
  go_loopw [] (fun w' => ∃ (w1 : World) (seen : Array Nat), Drw w1 w ∧ w' = w1.alloc (.mapIter (some ga) ca seen ca) ∧ ∀ x ∈ esa.toList, seen.contains x.born = true → hitM b x = false) (fun w' => (leftOf esa (w'.iterSeen w.heap.size)).size)
  case atStart => exact ⟨w, #[], ⟨rfl, rfl, rfl, rfl, Nat.le_refl _⟩, rfl, fun x _ h => by simp at h⟩
  case round =>
    obtain ⟨w1, seen, hal, rfl, hno⟩ := hrel
    have hsz : w1.heap.size = w.heap.size := by rw [hal.1]
    have hb1 : w1.heap[ga]? = some (.map esa ca) := by rw [hal.1]; exact hga
    have law := next_map2 (P := Try.prog) w1 0 ga ca ca seen esa ca hb1 hold (Nat.le_refl _)
    rw [hsz] at law
    rcases law with ⟨h0, hrun⟩ | ⟨e, he, w2, hal2, hrun⟩
    · have hnx : ∀ ty, (Instr.next (.pointer (some ⟨w.heap.size, 0, none⟩)) false ty).run Try.prog (w1.alloc (.mapIter (some ga) ca seen ca)) = _ := fun _ => hrun
      go_wp2
      go_ret
      have hf : (esa.toList.any (hitM b)) = false := by
        rw [List.any_eq_false]
        intro x hx
        have := hno x hx (all_seen esa seen h0 x hx)
        simpa using this
      rw [hf]
      exact ⟨rfl, w1, seen, hal, rfl⟩
    · obtain ⟨k, hkey⟩ := hka e (mem_left he).1
      rw [hkey] at hrun
      have hnx : ∀ ty, (Instr.next (.pointer (some ⟨w.heap.size, 0, none⟩)) false ty).run Try.prog (w1.alloc (.mapIter (some ga) ca seen ca)) = _ := fun _ => hrun
      have hsz2 : w2.heap.size = w.heap.size := by rw [hal2.1, hal.1]
      have hb2 : w2.heap[ga]? = some (.map esa ca) := by rw [hal2.1]; exact hb1
      have hen := run_entry_map (P := Try.prog) w2 ga ca seen esa ca e hb2 (mem_left he).1 hnd
      rw [hsz2, hkey] at hen
      have hal3 : Drw w2 w := hal2.trans hal
      have hB2 := hB w2 (.mapIter (some ga) ca (seen.push e.born) ca) hal3
      obtain ⟨vv, hlk⟩ := hL w2 (.mapIter (some ga) ca (seen.push e.born) ca) hal3 k
      have hhit : hitM b e = (mfind (.str k) (entsF 0 b) 0).isSome := by unfold hitM; rw [hkey]
      rw [← hhit] at hlk
      cases hh : hitM b e
      · rw [hh] at hlk
        go_wp2
        go_roundw
        case rel =>
          refine ⟨w2, seen.push e.born, hal3, rfl, fun x hx hc => ?_⟩
          rw [contains_push] at hc
          rcases Bool.or_eq_true _ _ ▸ hc with h1 | h1
          · exact hno x hx h1
          · have : x = e := born_inj hnd hx (mem_left he).1 (beq_iff_eq.1 h1)
            subst this
            exact hh
        case measure =>
          rw [← hsz2, World.iterSeen_alloc, hsz2, ← hsz, World.iterSeen_alloc]
          exact left_shrinks esa seen e he
      · rw [hh] at hlk
        go_wp2
        go_ret
        have ht : (esa.toList.any (hitM b)) = true := List.any_eq_true.2 ⟨e, (mem_left he).1, hh⟩
        rw [ht]
        exact ⟨rfl, w2, _, hal3, rfl⟩
theorem meet_c (s : List Rule) (a b : Gr) (ha : a.ok) (hb : b.ok) : CallP Try.prog 73 [.ipt (graphV s a) 0, .ipt (graphV s b) 0] (bv (a.ws.any fun x => decide (x ∈ b.ws))) := by
  refine ⟨⟨_, Try.func73, by decide +kernel, by simp [Try.f73]⟩, fun w X vs hX hlen hargs => ?_⟩
  obtain ⟨v0, v1, rfl⟩ : ∃ v0 v1, vs = #[v0, v1] := by
    cases vs with
    | mk l =>
      match l, hlen with
      | [x, y], _ => exact ⟨x, y, rfl⟩
  have h0 : Rep w X Mu.none (.ipt (graphV s a) 0) v0 := hargs 0 (by simp)
  have h1 : Rep w X Mu.none (.ipt (graphV s b) 0) v1 := hargs 1 (by simp)
  obtain ⟨pa, oa, ga, esa, ca, rfl, ⟨da, ela, fra, hpa, hoa, hda⟩, hga, hsa, hra⟩ := graph_at h0
  obtain ⟨pb, ob, gb, esb, cb, rfl, ⟨db, elb, frb, hpb, hob, hdb⟩, hgb, hsb, hrb⟩ := graph_at h1
  have hfa : ∀ y ∈ a.ws, fine y := fun y hy => fine_of (ha.fine y hy)
  have hfb : ∀ y ∈ b.ws, fine y := fun y hy => fine_of (hb.fine y hy)
  have hold : ∀ (w1 : World) (o : Obj) (q : Nat), Drw w1 w → q < w.heap.size → (w1.alloc o).heap[q]? = w.heap[q]? := by
    intro w1 o q hal hq
    rw [Go.Abs.alloc_old w1 o (by rw [hal.1]; exact hq), hal.1]
  have hcell : ∀ (W : World) {p o gm : Nat} {c : Array Value} {el : TypeId} {fr : Nat × Nat}, W.heap[p]? = some (.cells c el fr) → o + 5 ≤ c.size → c.getD (o + 2) undef = .map (some gm) → W.cell? ⟨p, o + 2, none⟩ = some (.map (some gm)) := by
    intro W p o gm c el fr h1 h2 h3
    rw [cell_heap h1 (by omega), h3]
  have := meet_walk pa oa ga ca pb ob gb esa b.ws w hga (by rw [hsa.1]; exact hsa) (fun e he => ent_string hsa.1 hra he)
    (fun w1 o hal => hcell _ ((hold w1 o pa hal (lt_of_heap hpa)).trans hpa) hoa hda) (hcell _ hpa hoa hda)
    (fun w1 o hal => hcell _ ((hold w1 o pb hal (lt_of_heap hpb)).trans hpb) hob hdb)
    (fun w1 o hal k => look_at ((hold w1 o gb hal (lt_of_heap hgb)).trans hgb) (by rw [entsF_len]; exact hsb.1) (fun i hi => (hrb i hi).mono (fun q hq hlt => ⟨hq, hold w1 o q hal hlt⟩) (Mu.later.refl _)) (keysOK_ents 0 b.ws) k)
  rw [hit_any hfa hfb hsa.1 hra] at this
  refine Calls.mono this ?_
  rintro e w' ⟨rfl, w1, seen, hal, rfl⟩
  refine ⟨_, rfl, ?_, .raw rfl⟩
  have hx := Grows.alloc w1 (.mapIter (some ga) ca seen ca)
  exact Grows.trans ⟨⟨hal.2.1, hal.2.2.2.2⟩, hal.2.2.2.1, hal.2.2.1, by rw [hal.1]; exact Nat.le_refl _, fun q _ => by rw [hal.1]⟩ hx
end Go.Proofs.Ytkhddecnllcaiaa
end

section
/- Functions of the cut as the value layer reads them. (written by gen.py) -/
set_option maxRecDepth 20000
namespace Go.Proofs.Ytkhddecnllcaiaa
open Go.Abs Go

def A6 : ACode :=
  (.seq (.reg [] [⟨some 6, (.assign (.const (.bool false))), 4, none⟩])
    (.seq (.seq (.reg [] [⟨some 13, (.move (.tmp 0)), 41, none⟩,
      ⟨some 14, (.call ⟨(.value (.func 18)), #[(.tmp 13)], #[41]⟩), 4, none⟩,
      ⟨some 15, (.move (.tmp 14)), 4, none⟩,
      ⟨some 16, (.move (.tmp 1)), 22, some (15, false)⟩,
      ⟨some 17, (.call ⟨(.value (.func 35)), #[(.tmp 16)], #[22]⟩), 4, some (15, false)⟩,
      ⟨some 18, (.pick (.tmp 15) (.const (.bool true)) (.tmp 17)), 4, none⟩,
      ⟨some 19, (.move (.tmp 18)), 4, none⟩,
      ⟨some 20, (.move (.tmp 2)), 22, some (19, false)⟩,
      ⟨some 21, (.call ⟨(.value (.func 35)), #[(.tmp 20)], #[22]⟩), 4, some (19, false)⟩,
      ⟨some 22, (.pick (.tmp 19) (.const (.bool true)) (.tmp 21)), 4, none⟩])
    (.cond (.tmp 22)
    (.seq (.reg [] [⟨some 23, (.call ⟨(.value (.func 36)), #[], #[]⟩), 4, none⟩,
      ⟨some 6, (.assign (.tmp 23)), 4, none⟩])
    .ret)
    .skip))
    (.seq (.reg [] [⟨some 25, (.move (.tmp 0)), 41, none⟩,
      ⟨some 26, (.move (.tmp 1)), 22, none⟩,
      ⟨some 27, (.move (.tmp 2)), 22, none⟩,
      ⟨some 28, (.call ⟨(.value (.func 31)), #[(.tmp 25), (.tmp 26), (.tmp 27)], #[41, 22, 22]⟩), 32, none⟩,
      ⟨some 24, (.move (.tmp 28)), 32, none⟩,
      ⟨some 29, (.extract (.tmp 24) 0), 4, none⟩,
      ⟨some 30, (.extract (.tmp 24) 1), 27, none⟩,
      ⟨some 7, (.assign (.tmp 29)), 4, none⟩,
      ⟨some 8, (.assign (.tmp 30)), 27, none⟩])
    (.seq (.reg [] [⟨some 32, (.move (.tmp 0)), 41, none⟩,
      ⟨some 33, (.move (.tmp 1)), 22, none⟩,
      ⟨some 34, (.move (.tmp 2)), 22, none⟩,
      ⟨some 35, (.call ⟨(.value (.func 41)), #[(.tmp 32), (.tmp 33), (.tmp 34)], #[41, 22, 22]⟩), 32, none⟩,
      ⟨some 31, (.move (.tmp 35)), 32, none⟩,
      ⟨some 36, (.extract (.tmp 31) 0), 4, none⟩,
      ⟨some 37, (.extract (.tmp 31) 1), 27, none⟩,
      ⟨some 9, (.assign (.tmp 36)), 4, none⟩,
      ⟨some 10, (.assign (.tmp 37)), 27, none⟩])
    (.seq (.seq (.reg [] [⟨some 38, (.move (.tmp 7)), 4, none⟩,
      ⟨some 39, (.move (.tmp 9)), 4, none⟩,
      ⟨some 40, (.binOp .neq 4 (.tmp 38) (.tmp 39) 4), 4, none⟩,
      ⟨some 41, (.move (.tmp 40)), 4, none⟩,
      ⟨some 42, (.move (.tmp 8)), 27, some (41, false)⟩,
      ⟨some 43, (.move (.tmp 10)), 27, some (41, false)⟩,
      ⟨some 44, (.binOp .neq 27 (.tmp 42) (.tmp 43) 27), 4, some (41, false)⟩,
      ⟨some 45, (.pick (.tmp 41) (.const (.bool true)) (.tmp 44)), 4, none⟩])
    (.cond (.tmp 45)
    (.seq (.reg [] [⟨some 6, (.assign (.const (.bool false))), 4, none⟩])
    .ret)
    .skip))
    (.seq (.reg [] [⟨some 47, (.move (.tmp 0)), 41, none⟩,
      ⟨some 48, (.move (.tmp 1)), 22, none⟩,
      ⟨some 49, (.call ⟨(.value (.func 19)), #[(.tmp 47), (.tmp 48)], #[41, 22]⟩), 46, none⟩,
      ⟨some 46, (.move (.tmp 49)), 46, none⟩,
      ⟨some 50, (.extract (.tmp 46) 0), 45, none⟩,
      ⟨some 51, (.extract (.tmp 46) 1), 27, none⟩,
      ⟨some 11, (.assign (.tmp 50)), 45, none⟩,
      ⟨some 12, (.assign (.tmp 51)), 27, none⟩])
    (.seq (.seq (.reg [] [⟨some 52, (.move (.tmp 8)), 27, none⟩,
      ⟨some 53, (.binOp .neq 27 (.tmp 52) (.const (.int .i64 0)) 27), 4, none⟩,
      ⟨some 54, (.move (.tmp 53)), 4, none⟩,
      ⟨some 55, (.move (.tmp 12)), 27, some (54, false)⟩,
      ⟨some 56, (.binOp .neq 27 (.tmp 55) (.const (.int .i64 0)) 27), 4, some (54, false)⟩,
      ⟨some 57, (.pick (.tmp 54) (.const (.bool true)) (.tmp 56)), 4, none⟩])
    (.cond (.tmp 57)
    (.seq (.reg [] [⟨some 58, (.call ⟨(.value (.func 36)), #[], #[]⟩), 4, none⟩,
      ⟨some 6, (.assign (.tmp 58)), 4, none⟩])
    .ret)
    .skip))
    (.seq (.reg [] [⟨some 59, (.move (.tmp 2)), 22, none⟩,
      ⟨some 60, (.buildSlice 45 1 #[(0, (.tmp 59))]), 45, none⟩,
      ⟨some 61, (.move (.tmp 11)), 45, none⟩,
      ⟨some 62, (.call ⟨(.value (.func 40)), #[(.tmp 60), (.tmp 61)], #[45, 45]⟩), 4, none⟩,
      ⟨some 63, (.unOp .not 4 (.tmp 62)), 4, none⟩,
      ⟨some 64, (.move (.tmp 63)), 4, none⟩,
      ⟨some 65, (.move (.tmp 7)), 4, some (64, false)⟩,
      ⟨some 66, (.pick (.tmp 64) (.const (.bool true)) (.tmp 65)), 4, none⟩,
      ⟨some 67, (.move (.tmp 66)), 4, none⟩,
      ⟨some 68, (.call ⟨(.value (.func 36)), #[], #[]⟩), 4, some (67, true)⟩,
      ⟨some 69, (.pick (.tmp 67) (.tmp 68) (.const (.bool false))), 4, none⟩,
      ⟨some 6, (.assign (.tmp 69)), 4, none⟩])
    .ret))))))))
theorem C6 {args : List AV} {r : AV} (hn : args.length ≤ 70) (h : vc Try.prog T [] A6 (Fin T [(.tmp 6)] r) ⟨envOf 0 args, []⟩) : CallP Try.prog 6 args r :=
  callP_of tok mixed Try.func6 (by kernel_rfl) (by kernel_rfl) (by kernel_rfl : Try.f6.ntmps = 70) (by kernel_rfl : Try.f6.body.bind (strip 70 (fun _ => [])) = some A6) hn h
def A31 : ACode :=
  (.seq (.reg [] [⟨some 6, (.assign (.const (.bool false))), 4, none⟩,
      ⟨some 7, (.assign (.const (.int .i64 0))), 27, none⟩])
    (.seq (.seq (.reg [] [⟨some 12, (.move (.tmp 0)), 41, none⟩,
      ⟨some 13, (.move (.tmp 1)), 22, none⟩,
      ⟨some 14, (.move (.tmp 2)), 22, none⟩,
      ⟨some 15, (.buildSlice 45 2 #[(0, (.tmp 13)), (1, (.tmp 14))]), 45, none⟩,
      ⟨some 16, (.call ⟨(.value (.func 67)), #[(.tmp 12), (.tmp 15)], #[41, 45]⟩), 27, none⟩,
      ⟨some 8, (.assign (.tmp 16)), 27, none⟩])
    (.seq (.reg [] [⟨some 17, (.move (.tmp 8)), 27, none⟩,
      ⟨some 18, (.binOp .neq 27 (.tmp 17) (.const (.int .i64 0)) 27), 4, none⟩])
    (.cond (.tmp 18)
    (.seq (.reg [] [⟨some 19, (.move (.tmp 8)), 27, none⟩,
      ⟨some 6, (.assign (.const (.bool false))), 4, none⟩,
      ⟨some 7, (.assign (.tmp 19)), 27, none⟩])
    .ret)
    .skip)))
    (.seq (.reg [] [⟨some 21, (.move (.tmp 0)), 41, none⟩,
      ⟨some 22, (.move (.tmp 1)), 22, none⟩,
      ⟨some 23, (.call ⟨(.value (.func 69)), #[(.tmp 21), (.tmp 22)], #[41, 22]⟩), 87, none⟩,
      ⟨some 20, (.move (.tmp 23)), 87, none⟩,
      ⟨some 24, (.extract (.tmp 20) 0), 86, none⟩,
      ⟨some 25, (.extract (.tmp 20) 1), 27, none⟩,
      ⟨some 9, (.assign (.tmp 24)), 86, none⟩,
      ⟨some 10, (.assign (.tmp 25)), 27, none⟩])
    (.seq (.seq (.reg [] [⟨some 26, (.move (.tmp 10)), 27, none⟩,
      ⟨some 27, (.binOp .neq 27 (.tmp 26) (.const (.int .i64 0)) 27), 4, none⟩])
    (.cond (.tmp 27)
    (.seq (.reg [] [⟨some 28, (.move (.tmp 10)), 27, none⟩,
      ⟨some 6, (.assign (.const (.bool false))), 4, none⟩,
      ⟨some 7, (.assign (.tmp 28)), 27, none⟩])
    .ret)
    .skip))
    (.seq (.reg [] [⟨some 30, (.move (.tmp 0)), 41, none⟩,
      ⟨some 31, (.move (.tmp 2)), 22, none⟩,
      ⟨some 32, (.call ⟨(.value (.func 69)), #[(.tmp 30), (.tmp 31)], #[41, 22]⟩), 87, none⟩,
      ⟨some 29, (.move (.tmp 32)), 87, none⟩,
      ⟨some 33, (.extract (.tmp 29) 0), 86, none⟩,
      ⟨some 34, (.extract (.tmp 29) 1), 27, none⟩,
      ⟨some 11, (.assign (.tmp 33)), 86, none⟩,
      ⟨some 10, (.assign (.tmp 34)), 27, none⟩])
    (.seq (.seq (.reg [] [⟨some 35, (.move (.tmp 10)), 27, none⟩,
      ⟨some 36, (.binOp .neq 27 (.tmp 35) (.const (.int .i64 0)) 27), 4, none⟩])
    (.cond (.tmp 36)
    (.seq (.reg [] [⟨some 37, (.move (.tmp 10)), 27, none⟩,
      ⟨some 6, (.assign (.const (.bool false))), 4, none⟩,
      ⟨some 7, (.assign (.tmp 37)), 27, none⟩])
    .ret)
    .skip))
    (.seq (.reg [] [⟨some 38, (.move (.tmp 9)), 86, none⟩,
      ⟨some 39, (.move (.tmp 11)), 86, none⟩,
      ⟨some 40, (.call ⟨(.value (.func 73)), #[(.tmp 38), (.tmp 39)], #[86, 86]⟩), 4, none⟩,
      ⟨some 6, (.assign (.tmp 40)), 4, none⟩,
      ⟨some 7, (.assign (.const (.int .i64 0))), 27, none⟩])
    .ret)))))))
theorem C31 {args : List AV} {r : AV} (hn : args.length ≤ 41) (h : vc Try.prog T [] A31 (Fin T [(.tmp 6), (.tmp 7)] r) ⟨envOf 0 args, []⟩) : CallP Try.prog 31 args r :=
  callP_of tok mixed Try.func31 (by kernel_rfl) (by kernel_rfl) (by kernel_rfl : Try.f31.ntmps = 41) (by kernel_rfl : Try.f31.body.bind (strip 41 (fun _ => [])) = some A31) hn h
def A41 : ACode :=
  (.seq (.reg [] [⟨some 6, (.assign (.const (.bool false))), 4, none⟩,
      ⟨some 7, (.assign (.const (.int .i64 0))), 27, none⟩])
    (.seq (.seq (.reg [] [⟨some 12, (.move (.tmp 0)), 41, none⟩,
      ⟨some 13, (.move (.tmp 1)), 22, none⟩,
      ⟨some 14, (.move (.tmp 2)), 22, none⟩,
      ⟨some 15, (.call ⟨(.value (.func 78)), #[(.tmp 12), (.tmp 13), (.tmp 14)], #[41, 22, 22]⟩), 27, none⟩,
      ⟨some 8, (.assign (.tmp 15)), 27, none⟩])
    (.seq (.reg [] [⟨some 16, (.move (.tmp 8)), 27, none⟩,
      ⟨some 17, (.binOp .neq 27 (.tmp 16) (.const (.int .i64 0)) 27), 4, none⟩])
    (.cond (.tmp 17)
    (.seq (.reg [] [⟨some 18, (.move (.tmp 8)), 27, none⟩,
      ⟨some 6, (.assign (.const (.bool false))), 4, none⟩,
      ⟨some 7, (.assign (.tmp 18)), 27, none⟩])
    .ret)
    .skip)))
    (.seq (.reg [] [⟨some 20, (.move (.tmp 0)), 41, none⟩,
      ⟨some 21, (.move (.tmp 1)), 22, none⟩,
      ⟨some 22, (.call ⟨(.value (.func 79)), #[(.tmp 20), (.tmp 21)], #[41, 22]⟩), 120, none⟩,
      ⟨some 19, (.move (.tmp 22)), 120, none⟩,
      ⟨some 23, (.extract (.tmp 19) 0), 119, none⟩,
      ⟨some 24, (.extract (.tmp 19) 1), 27, none⟩,
      ⟨some 9, (.alloc 119), 0, none⟩,
      ⟨none, (.store 119 (.tmp 9) (.tmp 23)), 0, none⟩,
      ⟨some 10, (.assign (.tmp 24)), 27, none⟩])
    (.seq (.seq (.reg [] [⟨some 25, (.move (.tmp 10)), 27, none⟩,
      ⟨some 26, (.binOp .neq 27 (.tmp 25) (.const (.int .i64 0)) 27), 4, none⟩])
    (.cond (.tmp 26)
    (.seq (.reg [] [⟨some 27, (.move (.tmp 10)), 27, none⟩,
      ⟨some 6, (.assign (.const (.bool false))), 4, none⟩,
      ⟨some 7, (.assign (.tmp 27)), 27, none⟩])
    .ret)
    .skip))
    (.seq (.reg [] [⟨some 29, (.move (.tmp 0)), 41, none⟩,
      ⟨some 30, (.move (.tmp 2)), 22, none⟩,
      ⟨some 31, (.call ⟨(.value (.func 79)), #[(.tmp 29), (.tmp 30)], #[41, 22]⟩), 120, none⟩,
      ⟨some 28, (.move (.tmp 31)), 120, none⟩,
      ⟨some 32, (.extract (.tmp 28) 0), 119, none⟩,
      ⟨some 33, (.extract (.tmp 28) 1), 27, none⟩,
      ⟨some 11, (.alloc 119), 0, none⟩,
      ⟨none, (.store 119 (.tmp 11) (.tmp 32)), 0, none⟩,
      ⟨some 10, (.assign (.tmp 33)), 27, none⟩])
    (.seq (.seq (.reg [] [⟨some 34, (.move (.tmp 10)), 27, none⟩,
      ⟨some 35, (.binOp .neq 27 (.tmp 34) (.const (.int .i64 0)) 27), 4, none⟩])
    (.cond (.tmp 35)
    (.seq (.reg [] [⟨some 36, (.move (.tmp 10)), 27, none⟩,
      ⟨some 6, (.assign (.const (.bool false))), 4, none⟩,
      ⟨some 7, (.assign (.tmp 36)), 27, none⟩])
    .ret)
    .skip))
    (.seq (.reg [] [⟨some 37, (.fieldAddr 119 (.tmp 9) 0), 0, none⟩,
      ⟨some 38, (.load 45 (.tmp 37)), 45, none⟩,
      ⟨some 39, (.fieldAddr 119 (.tmp 11) 0), 0, none⟩,
      ⟨some 40, (.load 45 (.tmp 39)), 45, none⟩,
      ⟨some 41, (.call ⟨(.value (.func 80)), #[(.tmp 38), (.tmp 40)], #[45, 45]⟩), 4, none⟩,
      ⟨some 6, (.assign (.tmp 41)), 4, none⟩,
      ⟨some 7, (.assign (.const (.int .i64 0))), 27, none⟩])
    .ret)))))))
theorem C41 {args : List AV} {r : AV} (hn : args.length ≤ 42) (h : vc Try.prog T [] A41 (Fin T [(.tmp 6), (.tmp 7)] r) ⟨envOf 0 args, []⟩) : CallP Try.prog 41 args r :=
  callP_of tok mixed Try.func41 (by kernel_rfl) (by kernel_rfl) (by kernel_rfl : Try.f41.ntmps = 42) (by kernel_rfl : Try.f41.body.bind (strip 42 (fun _ => [])) = some A41) hn h

end Go.Proofs.Ytkhddecnllcaiaa
end

section
/- Functions of the cut as the value layer reads them. (written by gen.py) -/
set_option maxRecDepth 20000
namespace Go.Proofs.Ytkhddecnllcaiaa
open Go.Abs Go

def A9 : ACode :=
  (.seq (.reg [] [⟨some 1, (.box 24 (.tmp 0)), 0, none⟩,
      ⟨some 2, (.assign (.const (.bool false))), 4, none⟩])
    (.seq (.reg [] [⟨some 3, (.fieldAddr 24 (.tmp 1) 1), 0, none⟩,
      ⟨some 4, (.load 22 (.tmp 3)), 22, none⟩,
      ⟨some 5, (.call ⟨(.value (.func 44)), #[(.tmp 4)], #[22]⟩), 4, none⟩,
      ⟨some 6, (.move (.tmp 5)), 4, none⟩,
      ⟨some 7, (.fieldAddr 24 (.tmp 1) 2), 0, some (6, false)⟩,
      ⟨some 8, (.load 22 (.tmp 7)), 22, some (6, false)⟩,
      ⟨some 9, (.call ⟨(.value (.func 44)), #[(.tmp 8)], #[22]⟩), 4, some (6, false)⟩,
      ⟨some 10, (.pick (.tmp 6) (.const (.bool true)) (.tmp 9)), 4, none⟩,
      ⟨some 11, (.move (.tmp 10)), 4, none⟩,
      ⟨some 12, (.fieldAddr 24 (.tmp 1) 3), 0, some (11, false)⟩,
      ⟨some 13, (.load 22 (.tmp 12)), 22, some (11, false)⟩,
      ⟨some 14, (.call ⟨(.value (.func 44)), #[(.tmp 13)], #[22]⟩), 4, some (11, false)⟩,
      ⟨some 15, (.pick (.tmp 11) (.const (.bool true)) (.tmp 14)), 4, none⟩,
      ⟨some 2, (.assign (.tmp 15)), 4, none⟩])
    .ret))
theorem C9 {args : List AV} {r : AV} (hn : args.length ≤ 16) (h : vc Try.prog T [] A9 (Fin T [(.tmp 2)] r) ⟨envOf 0 args, []⟩) : CallP Try.prog 9 args r :=
  callP_of tok mixed Try.func9 (by kernel_rfl) (by kernel_rfl) (by kernel_rfl : Try.f9.ntmps = 16) (by kernel_rfl : Try.f9.body.bind (strip 16 (fun _ => [])) = some A9) hn h
def A44 : ACode :=
  (.seq (.reg [] [⟨some 2, (.assign (.const (.bool false))), 4, none⟩])
    (.seq (.reg [] [⟨some 3, (.move (.tmp 0)), 22, none⟩,
      ⟨some 4, (.call ⟨(.builtin .len), #[(.tmp 3)], #[22]⟩), 3, none⟩,
      ⟨some 5, (.binOp .gtr 3 (.tmp 4) (.const (.int .i64 100)) 3), 4, none⟩,
      ⟨some 2, (.assign (.tmp 5)), 4, none⟩])
    .ret))
theorem C44 {args : List AV} {r : AV} (hn : args.length ≤ 6) (h : vc Try.prog T [] A44 (Fin T [(.tmp 2)] r) ⟨envOf 0 args, []⟩) : CallP Try.prog 44 args r :=
  callP_of tok mixed Try.func44 (by kernel_rfl) (by kernel_rfl) (by kernel_rfl : Try.f44.ntmps = 6) (by kernel_rfl : Try.f44.body.bind (strip 6 (fun _ => [])) = some A44) hn h
def A80 : ACode :=
  (.seq (.reg [] [⟨some 4, (.assign (.const (.bool false))), 4, none⟩])
    (.seq (.seq (.reg [] [⟨some 5, (.assign (.const (.int .i64 0))), 3, none⟩])
    (.block 0 (.loop (.seq (.seq (.reg [] [⟨some 6, (.move (.tmp 5)), 3, none⟩,
      ⟨some 7, (.move (.tmp 0)), 45, none⟩,
      ⟨some 8, (.call ⟨(.builtin .len), #[(.tmp 7)], #[45]⟩), 3, none⟩,
      ⟨some 9, (.binOp .lss 3 (.tmp 6) (.tmp 8) 3), 4, none⟩])
    (.cond (.tmp 9)
    .skip
    (.exit 0)))
    (.seq (.block 1 (.seq (.reg [] [⟨some 12, (.move (.tmp 1)), 45, none⟩,
      ⟨some 13, (.move (.tmp 0)), 45, none⟩,
      ⟨some 14, (.move (.tmp 5)), 3, none⟩,
      ⟨some 15, (.indexAddr 45 (.tmp 13) (.tmp 14)), 0, none⟩,
      ⟨some 16, (.load 22 (.tmp 15)), 22, none⟩,
      ⟨some 17, (.call ⟨(.value (.func 104)), #[(.tmp 12), (.tmp 16)], #[45, 22]⟩), 3, none⟩,
      ⟨some 18, (.binOp .geq 3 (.tmp 17) (.const (.int .i64 0)) 3), 4, none⟩])
    (.cond (.tmp 18)
    (.seq (.reg [] [⟨some 4, (.assign (.const (.bool true))), 4, none⟩])
    .ret)
    .skip)))
    (.reg [] [⟨some 10, (.move (.tmp 5)), 3, none⟩,
      ⟨some 11, (.binOp .add 3 (.tmp 10) (.const (.int .i64 1)) 3), 3, none⟩,
      ⟨some 5, (.assign (.tmp 11)), 3, none⟩]))))))
    (.seq (.reg [] [⟨some 4, (.assign (.const (.bool false))), 4, none⟩])
    .ret)))
theorem C80 {args : List AV} {r : AV} (hn : args.length ≤ 19) (h : vc Try.prog T [] A80 (Fin T [(.tmp 4)] r) ⟨envOf 0 args, []⟩) : CallP Try.prog 80 args r :=
  callP_of tok mixed Try.func80 (by kernel_rfl) (by kernel_rfl) (by kernel_rfl : Try.f80.ntmps = 19) (by kernel_rfl : Try.f80.body.bind (strip 19 (fun _ => [])) = some A80) hn h

end Go.Proofs.Ytkhddecnllcaiaa
end

section
/- Contracts: the reference's weights; the statement FeedWeights. -/
namespace Go.Proofs.Ytkhddecnllcaiaa
open Go.Abs Go
attribute [local simp] avsEq avEq akind teq vkind vEq

end Go.Proofs.Ytkhddecnllcaiaa
end

section
/- The library's sort of words, over a lent box. -/
namespace Go.Proofs.Ytkhddecnllcaiaa
open Go.Abs Go

/-! ### lists of words in order -/
/-- No later one comes before an earlier one. -/
def inOrder (l : List (List Int)) : Prop := l.Pairwise fun a b => bef b a = false
theorem order_same : ∀ {l m : List (List Int)}, l.Perm m → inOrder l → inOrder m → l = m
  | [], m, h, _, _ => by simpa using h.symm
  | x :: l, [], h, _, _ => by simp at h
  | x :: l, y :: m, h, hl, hm => by
    unfold inOrder at hl hm
    rw [List.pairwise_cons] at hl hm
    have hxy : x = y := by
      apply Classical.byContradiction
      intro hne
      have hx : x ∈ m := by
        rcases List.mem_cons.1 (h.mem_iff.1 (List.mem_cons_self)) with e | e
        · exact absurd e hne
        · exact e
      have hy : y ∈ l := by
        rcases List.mem_cons.1 (h.mem_iff.2 (List.mem_cons_self)) with e | e
        · exact absurd e.symm hne
        · exact e
      have h1 := hl.1 y hy
      have h2 := hm.1 x hx
      rcases bef_total hne with e | e
      · rw [e] at h2; cases h2
      · rw [e] at h1; cases h1
    subst hxy
    rw [order_same (List.Perm.cons_inv h) hl.2 hm.2]
def insO (w : List Int) : List (List Int) → List (List Int)
  | [] => [w]
  | x :: l => if bef x w then x :: insO w l else w :: x :: l
/-- The words in ascending order. -/
def sortW : List (List Int) → List (List Int)
  | [] => []
  | x :: l => insO x (sortW l)
theorem insO_perm (w : List Int) : ∀ l : List (List Int), (insO w l).Perm (w :: l)
  | [] => List.Perm.refl _
  | x :: l => by
    rw [insO]
    split
    · exact ((insO_perm w l).cons x).trans (List.Perm.swap w x l)
    · exact List.Perm.refl _
theorem sortW_perm : ∀ l : List (List Int), (sortW l).Perm l
  | [] => List.Perm.refl _
  | x :: l => (insO_perm x (sortW l)).trans ((sortW_perm l).cons x)
theorem bef_flip {a b : List Int} (h : bef a b = true) : bef b a = false := bef_asymm h
theorem bef_no_trans {a b c : List Int} (h : bef b a = false) (k : bef c b = false) : bef c a = false := by
  cases hc : bef c a with
  | false => rfl
  | true =>
    by_cases e1 : a = b
    · subst e1; rw [k] at hc; cases hc
    · by_cases e2 : b = c
      · subst e2; rw [h] at hc; cases hc
      · rcases bef_total e1 with e | e
        · have := bef_trans hc e
          rw [this] at k; cases k
        · rw [e] at h; cases h
theorem insO_order {w : List Int} : ∀ {l : List (List Int)}, inOrder l → inOrder (insO w l)
  | [], _ => by simp [insO, inOrder]
  | x :: l, h => by
    unfold inOrder at h
    rw [List.pairwise_cons] at h
    rw [insO]
    split
    · rename_i hb
      unfold inOrder
      rw [List.pairwise_cons]
      refine ⟨fun y hy => ?_, insO_order h.2⟩
      rcases List.mem_cons.1 ((insO_perm w l).mem_iff.1 hy) with rfl | hy
      · exact bef_flip hb
      · exact h.1 y hy
    · rename_i hb
      have hb' : bef x w = false := by simpa using hb
      unfold inOrder
      rw [List.pairwise_cons]
      refine ⟨fun y hy => ?_, by rw [List.pairwise_cons]; exact h⟩
      rcases List.mem_cons.1 hy with rfl | hy
      · exact hb'
      · exact bef_no_trans hb' (h.1 y hy)
theorem sortW_order : ∀ l : List (List Int), inOrder (sortW l)
  | [] => by simp [sortW, inOrder]
  | x :: l => insO_order (sortW_order l)

/-- How two words compare. -/
def cmpW (a b : List Int) : Int := if a = b then 0 else if bef a b then -1 else 1

/-! ### the library's sort -/
section
open Go.Sort Go.Shelf
variable {P : Program} {ρ : Ren}

/-- A word and the value that reads so. -/
abbrev Cell (w : World) (Y : Nat → Prop) := { p : List Int × Value // Rep w Y Mu.none (ints p.1) p.2 }
instance {w : World} {Y : Nat → Prop} : Inhabited (Cell w Y) := ⟨⟨([], .slice none 0 0), .nil⟩⟩
def cellV {w : World} {Y : Nat → Prop} (x : Cell w Y) : Value := x.1.2
def cellC {w : World} {Y : Nat → Prop} (x y : Cell w Y) : Int := cmpW x.1.1 y.1.1
theorem cellV_one {w : World} {Y : Nat → Prop} : OneCell (cellV (w := w) (Y := Y)) := by
  intro ⟨⟨l, v⟩, h⟩
  unfold cellV
  simp only [ints] at h ⊢
  generalize l.map iv = m at h
  cases h <;> rfl
theorem cell_big {w : World} {Y : Nat → Prop} {l : List Int} {v : Value} (h : Rep w Y Mu.none (ints l) v) : l.length ≤ big := by
  simp only [ints] at h
  have e : l.length = (l.map iv).length := by simp
  rw [e]
  generalize l.map iv = m at h
  cases h with
  | nil => simp
  | seq hY hb hc hf hbig hfit hw h1 h => exact hbig
theorem cellC_lt {w : World} {Y : Nat → Prop} (x y : Cell w Y) : ltOf cellC x y = bef x.1.1 y.1.1 := by
  unfold ltOf cellC cmpW
  by_cases h : x.1.1 = y.1.1
  · rw [if_pos h, h, bef_irr]; simp
  · rw [if_neg h]
    cases bef x.1.1 y.1.1 <;> simp
theorem cell_swo {w : World} {Y : Nat → Prop} : SWO (ltOf (cellC (w := w) (Y := Y))) := by
  refine ⟨fun x => ?_, fun x y z h1 h2 => ?_, fun x y z h1 h2 => ?_⟩
  · rw [cellC_lt, bef_irr]
  · rw [cellC_lt] at h1 h2 ⊢
    exact bef_trans h1 h2
  · rw [cellC_lt] at h1 h2 ⊢
    exact bef_no_trans h2 h1
theorem grows_eq {w w' : World} (h : Grows w w') : w' = Go.Sort.grow (w.drewN (w'.drawn - w.drawn)) (w'.heap.extract w.heap.size w'.heap.size) := by
  obtain ⟨⟨h1, h2⟩, h3, h4, h5, h6⟩ := h
  cases w
  cases w'
  unfold Go.Sort.grow World.drewN
  simp only at h1 h2 h3 h4 h5 h6 ⊢
  simp only [World.mk.injEq]
  refine ⟨?_, h3, by omega, h1, h4⟩
  apply Array.ext_getElem?
  intro k
  rw [Array.getElem?_append]
  split
  · rename_i hk; exact h6 k hk
  · rename_i hk
    rw [Array.getElem?_extract]
    split
    · congr 1; omega
    · rename_i h7
      rw [Array.getElem?_eq_none (by omega)]
theorem sortWorld_other {α : Type} [Inhabited α] {enc : α → Value} {w : World} {blk off m : Nat} {dk : Array α} {os : Array Obj} {b : Nat} (hb : b < w.heap.size) (hne : b ≠ blk) : (Go.Proofs.sortWorld enc w blk off m dk os).heap[b]? = w.heap[b]? := by
  unfold Go.Proofs.sortWorld Go.Sort.grow Go.Sort.putRow Go.Sort.mapBlock Go.Sort.ahead
  simp only
  rw [Array.getElem?_append_left (by simpa using hb), Array.getElem?_modify, if_neg (Ne.symm hne)]
theorem sortWorld_at {α : Type} [Inhabited α] {enc : α → Value} {w : World} {blk off m : Nat} {dk : Array α} {os : Array Obj} {c : Array Value} {e : TypeId} {fr : Nat × Nat} (hb : w.heap[blk]? = some (.cells c e fr)) : (Go.Proofs.sortWorld enc w blk off m dk os).heap[blk]? = some (.cells (Go.Sort.putCells enc off dk c) e fr) := by
  have hlt := lt_of_heap hb
  unfold Go.Proofs.sortWorld Go.Sort.grow Go.Sort.putRow Go.Sort.mapBlock Go.Sort.ahead
  simp only
  rw [Array.getElem?_append_left (by simpa using hlt), Array.getElem?_modify, if_pos rfl, hb]
  rfl
theorem sortWorld_size {α : Type} [Inhabited α] {enc : α → Value} {w : World} {blk off m : Nat} {dk : Array α} {os : Array Obj} : w.heap.size ≤ (Go.Proofs.sortWorld enc w blk off m dk os).heap.size := by
  unfold Go.Proofs.sortWorld Go.Sort.grow Go.Sort.putRow Go.Sort.mapBlock Go.Sort.ahead
  simp
theorem putCells_getD {α : Type} [Inhabited α] {enc : α → Value} {off : Nat} {d : Array α} {c : Array Value} {k : Nat} (hk : k < c.size) : (Go.Sort.putCells enc off d c).getD k undef = if off ≤ k ∧ k < off + d.size then enc d[k - off]! else c.getD k undef := by
  unfold Go.Sort.putCells
  simp [Array.getD, hk]
/-- The library's sort of words, over a lent row. -/
theorem callL_sort (L : SlLaysF.n6 P ρ) {g : FuncId} (hg : ∀ a b : List Int, a.length ≤ big → b.length ≤ big → CallP P g [ints a, ints b] (iv (cmpW a b))) (d : List (List Int)) :
    CallL P (ρ.f 6) [] 1 (d.map ints) [.fn g [] []] (.val (.tup [])) ((sortW d).map ints) := by
  have hsl : (sortW d).length = d.length := (sortW_perm d).length_eq
  refine ⟨?_, fun w X l vs hv hsz hX hXl hh hlen hargs => ?_⟩
  · obtain ⟨nm, hn, hf⟩ := L.f6
    exact ⟨_, hf, by simpa using hn, by simp [SlBodyF.n6]⟩
  obtain ⟨v0, v1, rfl⟩ : ∃ v0 v1, vs = #[v0, v1] := by
    cases vs with
    | mk l =>
      match l, hlen with
      | [a, b], _ => exact ⟨a, b, rfl⟩
  have h0 : Rep w (Yof X (mu1 l)) (mu1 l) (.sl lid 0 0 (d.map ints).length) v0 := hargs 0 (by simp)
  have h1 : Rep w (Yof X (mu1 l)) (mu1 l) (.fn g [] []) v1 := hargs 1 (by simp)
  generalize hn : (d.map ints).length = n at h0
  simp only [List.length_map] at hn
  cases h1 with
  | @fn _ _ _ _ fs cs hs ht _ _ =>
  obtain rfl : fs = #[] := Array.eq_empty_of_size_eq_zero hs
  obtain rfl : cs = #[] := Array.eq_empty_of_size_eq_zero ht
  cases h0 with
  | slOld hm hv' =>
    simp only [mu1, if_true, Option.some.injEq] at hm
    subst hm
    omega
  | slNil hm hv' =>
    obtain rfl : d = [] := List.eq_nil_of_length_eq_zero hn
    refine (AnyF.slices_SortFunc_none (P := P) (ρ := ρ) { L with } _ 0 _ w).mono fun e w' ⟨he, hw⟩ => ?_
    subst hw
    exact ⟨_, he, Ext.refl _ _, hh, .tup rfl fun i hi => absurd hi (by simp)⟩
  | @sl _ _ _ _ _ cap loc g0 n0 hm hv' hb hc hfit hz =>
    simp only [mu1, if_true, Option.some.injEq] at hm
    subst hm
    subst hn
    obtain ⟨hbig, hh⟩ := hh
    rw [hb] at hh
    obtain ⟨c, el, hheap, hcs, hlen', hone, hrep⟩ := hh.1 (by simp)
    rw [hsz] at hfit
    simp only [Nat.zero_mul, Nat.add_zero, Nat.zero_add, Nat.mul_one, List.length_map, hsz] at hfit hlen' ⊢
    let Y : Nat → Prop := Yof X (mu1 l)
    have hY0 : Y g0 := .inr (blks_mu1.2 ⟨n0, hb⟩)
    have hYlt : ∀ b, Y b → b < w.heap.size := by
      rintro b (hx | hx)
      · exact hX b hx
      · obtain ⟨n, hn⟩ := blks_mu1.1 hx
        rw [hb] at hn
        simp only [Option.some.injEq, Prod.mk.injEq] at hn
        rw [← hn.1]
        exact lt_of_heap hheap
    have hcell : ∀ i : Fin d.length, Rep w Y Mu.none (ints d[i]) (c.getD (l.base + i) undef) := by
      intro i
      have := (hrep i (by simp)).2
      simp only [List.getD_eq_getElem?_getD, List.getElem?_map, List.getElem?_eq_getElem i.2, Option.map_some, Option.getD_some, Nat.mul_one, if_false, Bool.false_eq_true] at this
      exact this
    let arr : Array (Cell w Y) := Array.ofFn (n := d.length) fun i => ⟨(d[i], c.getD (l.base + i) undef), hcell i⟩
    have harr : arr.size = d.length := Array.size_ofFn
    have hget : ∀ i (hi : i < d.length), arr[i]! = ⟨(d[i], c.getD (l.base + i) undef), hcell ⟨i, hi⟩⟩ := by
      intro i hi
      rw [getElem!_pos arr i (by rw [harr]; exact hi)]
      exact Array.getElem_ofFn ..
    have hwords : arr.toList.map (fun x => x.1.1) = d := by
      apply List.ext_getElem
      · rw [List.length_map, Array.length_toList, harr]
      · intro i h1 h2
        rw [List.getElem_map, Array.getElem_toList, ← getElem!_pos arr i (by rw [harr]; exact h2), hget i h2]
    have hmono : ∀ {m : Nat} {dk : Array (Cell w Y)} {os : Array Obj} {a : AV} {v : Value}, Rep w Y Mu.none a v → Rep (Go.Proofs.sortWorld cellV w g0 l.base m dk os) Y Mu.none a v := by
      intro m dk os a v h
      refine h.mono (fun b hb' hlt => ⟨hb', sortWorld_other hlt ?_⟩) (Mu.later.refl _)
      rintro rfl
      exact hb' hY0
    have hkey := Any.slices_SortFunc L (cellV (w := w) (Y := Y)) cellV_one cellC cell_swo g #[] g0 l.base cap arr w ?_ ?_ ?_ (lt_of_heap hheap) ?_
    · rw [harr] at hkey
      refine hkey.mono fun e w' ⟨he, d', n, os, hp, hs, hw⟩ => ?_
      obtain ⟨hp1, _, hp2⟩ := hp
      rw [harr] at hp1
      have hd' : d'.toList.map (fun x => x.1.1) = sortW d := by
        refine order_same ?_ ?_ (sortW_order d)
        · have e1 : d'.extract 0 d.length = d' := by rw [← hp1]; exact Array.extract_size
          have e2 : arr.extract 0 d.length = arr := by rw [← harr]; exact Array.extract_size
          rw [e1, e2] at hp2
          exact ((hp2.map (fun x => x.1.1)).trans (by rw [hwords])).trans (sortW_perm d).symm
        · unfold inOrder
          rw [List.pairwise_map, List.pairwise_iff_getElem]
          intro i j hi hj hij
          have := hs i j (Nat.zero_le _) hij (by simpa [hp1] using hj)
          rw [cellC_lt, getElem!_pos d' j (by simpa using hj), getElem!_pos d' i (by simpa using hi)] at this
          simpa using this
      subst hw
      refine ⟨_, he, ⟨⟨rfl, ?_⟩, rfl, rfl, sortWorld_size, fun b hlt hno => sortWorld_other hlt ?_⟩, ⟨by simpa [hsl] using hbig, ?_⟩, .tup rfl fun i hi => absurd hi (by simp)⟩
      · exact Nat.le_add_right _ _
      · rintro rfl
        exact hno (blks_mu1.2 ⟨n0, hb⟩)
      · rw [hb]
        refine ⟨fun _ => ⟨_, el, sortWorld_at hheap, by simpa [Go.Sort.putCells] using hcs, by simpa [hsl] using hlen', fun j hj => ?_, fun i hi => ?_⟩, fun h => by cases h⟩
        · rw [putCells_getD (by omega)]
          split
          · exact cellV_one _
          · exact hone j hj
        · have hi' : i < d.length := by simpa [hsl] using hi
          have hi2 : i < d'.toList.length := by simpa [hp1] using hi'
          have e3 : (List.map ints (sortW d)).getD i .junk = ints (d'[i]!).1.1 := by
            rw [← hd', List.map_map, List.getD_eq_getElem?_getD, List.getElem?_map, List.getElem?_eq_getElem hi2, getElem!_pos d' i (by simpa using hi2)]
            simp
          rw [e3]
          have hi3 : i < d'.size := by rw [hp1]; exact hi'
          have hlt : l.base + i * 1 < c.size := by rw [hcs]; omega
          refine ⟨rfl, ?_⟩
          show Rep _ _ Mu.none _ ((Go.Sort.putCells cellV l.base d' c).getD (l.base + i * 1) undef)
          rw [putCells_getD hlt, if_pos (by omega), show l.base + i * 1 - l.base = i by omega]
          exact hmono (d'[i]!).2
    · intro args w1
      obtain ⟨fn, hf, hname, hbody⟩ := (hg [] [] (by simp) (by simp)).1
      cases hb2 : fn.body with
      | none => exact absurd hb2 hbody
      | some code => exact enters_of hf (by simpa using hname) hb2 args w1
    · intro m os dk hdk x y
      refine ((hg x.1.1 y.1.1 (cell_big x.2) (cell_big y.2)).2 _ Y _ (fun b hb' => Nat.lt_of_lt_of_le (hYlt b hb') sortWorld_size) rfl fun i hi => ?_).mono ?_
      · match i, hi with
        | 0, _ => exact hmono x.2
        | 1, _ => exact hmono y.2
      · rintro e w' ⟨v, he, hgw, hr⟩
        obtain ⟨rfl, _⟩ := hr.one
        exact ⟨he, _, _, grows_eq hgw⟩
    · intro j hj
      rw [harr] at hj
      rw [hget j hj]
      have hlt : l.base + j < c.size := by omega
      refine ⟨?_, ?_⟩
      · unfold World.cell?
        simp only [hheap]
        simp [cellV, Array.getD, hlt]
      · unfold World.frozen?
        simp [hheap]
    · rw [harr]
      simp only [List.length_map, big] at hbig
      omega
end
end Go.Proofs.Ytkhddecnllcaiaa
end

section
/- The library's sort of words at this program: where its functions and types stand (written by the kit's tool lay-plain), and its contract. -/
namespace Go.Proofs.Ytkhddecnllcaiaa
open Go.Abs Go Go.Shelf
def lsort_ren : Go.Shelf.Ren := ⟨fun | 6 => 96 | 15 => 113 | 14 => 112 | 28 => 130 | 29 => 131 | 20 => 122 | 21 => 123 | 22 => 124 | 23 => 125 | 24 => 126 | 25 => 127 | 26 => 128 | 27 => 129 | 46 => 136 | 47 => 137 | 48 => 138 | 49 => 139 | 50 => 140 | 57 => 143 | n => n, fun | 22 => 45 | 24 => 22 | 25 => 103 | 3 => 3 | 39 => 54 | 0 => 0 | 53 => 149 | 55 => 152 | 4 => 4 | 46 => 157 | 45 => 156 | 50 => 89 | 5 => 5 | 9 => 9 | 66 => 167 | 70 => 171 | 76 => 173 | 77 => 174 | n => n, fun | n => n⟩
theorem lsort : Go.Proofs.SlLaysF.n6 Try.prog lsort_ren := {
  mixed := by kernel_rfl
  f6 := ⟨Try.f96.name, by decide, Try.func96.trans (congrArg some (by kernel_rfl))⟩
  f14 := ⟨Try.f112.name, by decide, Try.func112.trans (congrArg some (by kernel_rfl))⟩
  f15 := Try.func113.trans (congrArg some (by kernel_rfl))
  f20 := ⟨Try.f122.name, by decide, Try.func122.trans (congrArg some (by kernel_rfl))⟩
  f21 := ⟨Try.f123.name, by decide, Try.func123.trans (congrArg some (by kernel_rfl))⟩
  f22 := ⟨Try.f124.name, by decide, Try.func124.trans (congrArg some (by kernel_rfl))⟩
  f23 := ⟨Try.f125.name, by decide, Try.func125.trans (congrArg some (by kernel_rfl))⟩
  f24 := ⟨Try.f126.name, by decide, Try.func126.trans (congrArg some (by kernel_rfl))⟩
  f25 := ⟨Try.f127.name, by decide, Try.func127.trans (congrArg some (by kernel_rfl))⟩
  f26 := ⟨Try.f128.name, by decide, Try.func128.trans (congrArg some (by kernel_rfl))⟩
  f27 := ⟨Try.f129.name, by decide, Try.func129.trans (congrArg some (by kernel_rfl))⟩
  f28 := Try.func130.trans (congrArg some (by kernel_rfl))
  f29 := Try.func131.trans (congrArg some (by kernel_rfl))
  f46 := ⟨Try.f136.name, by decide, Try.func136.trans (congrArg some (by kernel_rfl))⟩
  f47 := Try.func137.trans (congrArg some (by kernel_rfl))
  f48 := Try.func138.trans (congrArg some (by kernel_rfl))
  f49 := ⟨Try.f139.name, by decide, Try.func139.trans (congrArg some (by kernel_rfl))⟩
  f50 := ⟨Try.f140.name, by decide, Try.func140.trans (congrArg some (by kernel_rfl))⟩
  f57 := ⟨Try.f143.name, by decide, Try.func143.trans (congrArg some (by kernel_rfl))⟩
  t0 := Try.underlying0
  a0 := Try.isAgg0
  z0 := Try.sizeOf0
  v0 := Try.zeroValue0
  t3 := Try.underlying3
  a3 := Try.isAgg3
  z3 := Try.sizeOf3
  v3 := Try.zeroValue3
  t4 := Try.underlying4
  a4 := Try.isAgg4
  z4 := Try.sizeOf4
  v4 := Try.zeroValue4
  t5 := Try.underlying5
  a5 := Try.isAgg5
  z5 := Try.sizeOf5
  v5 := Try.zeroValue5
  t9 := Try.underlying9
  a9 := Try.isAgg9
  z9 := Try.sizeOf9
  v9 := Try.zeroValue9
  t22 := Try.underlying45
  a22 := Try.isAgg45
  z22 := Try.sizeOf45
  v22 := Try.zeroValue45
  a24 := Try.isAgg22
  z24 := Try.sizeOf22
  t25 := Try.underlying103
  a25 := Try.isAgg103
  z25 := Try.sizeOf103
  v25 := Try.zeroValue103
  t39 := Try.underlying54
  a39 := Try.isAgg54
  z39 := Try.sizeOf54
  v39 := Try.zeroValue54
  t45 := Try.underlying156
  a45 := Try.isAgg156
  z45 := Try.sizeOf156
  v45 := Try.zeroValue156
  t46 := Try.underlying157
  a46 := Try.isAgg157
  z46 := Try.sizeOf157
  v46 := Try.zeroValue157
  t50 := Try.underlying89
  a50 := Try.isAgg89
  z50 := Try.sizeOf89
  v50 := Try.zeroValue89
  t53 := Try.underlying149
  a53 := Try.isAgg149
  z53 := Try.sizeOf149
  v53 := Try.zeroValue149
  t55 := Try.underlying152
  a55 := Try.isAgg152
  z55 := Try.sizeOf152
  v55 := Try.zeroValue152
  t66 := Try.underlying167
  a66 := Try.isAgg167
  z66 := Try.sizeOf167
  v66 := Try.zeroValue167
  t70 := Try.underlying171
  a70 := Try.isAgg171
  z70 := Try.sizeOf171
  v70 := Try.zeroValue171
  t76 := Try.underlying173
  a76 := Try.isAgg173
  z76 := Try.sizeOf173
  v76 := Try.zeroValue173
  t77 := Try.underlying174
  a77 := Try.isAgg174
  z77 := Try.sizeOf174
  v77 := Try.zeroValue174 }
end Go.Proofs.Ytkhddecnllcaiaa
end

section
/- Contracts: comparing and sorting words. -/
namespace Go.Proofs.Ytkhddecnllcaiaa
open Go.Abs Go
set_option maxRecDepth 20000
set_option maxHeartbeats 2000000
attribute [local irreducible] PreK CondK CallK CallG CallX LoopK
attribute [local simp] avsEq avEq akind teq vkind vEq

theorem isNaN_c (a : Int) : CallP Try.prog 132 [iv a] (bv false) := by
  refine C132 (by simp) ?_
  simp [A132]
def cmpI (a b : Int) : Int := if a < b then -1 else if b < a then 1 else 0
theorem cmpInt_c (a b : Int) : CallP Try.prog 114 [iv a, iv b] (iv (cmpI a b)) := by
  refine C114 (by simp) ?_
  simp [A114]
  try simp 
  repeat' (first
    | (refine CallX.pure (isNaN_c a) (by simp) (by simp) ?_; try simp )
    | (refine CallK.intro (isNaN_c a) (by simp) (by simp) ?_; try simp )
    | (refine CallG.intro (fun _ => isNaN_c a) (by simp) (by simp) ?_; try simp )
    | (refine CallX.pure (isNaN_c b) (by simp) (by simp) ?_; try simp )
    | (refine CallK.intro (isNaN_c b) (by simp) (by simp) ?_; try simp )
    | (refine CallG.intro (fun _ => isNaN_c b) (by simp) (by simp) ?_; try simp )
    | ((with_reducible refine PreK.intro ?_ ?_); (next => (first | omega | (intros; first | omega | (refine ⟨by omega, ?_⟩; repeat (first | assumption | constructor)) | assumption))); intro _; try simp )
    | fail)
  refine CondK.intro (fun h1 => ?_) (fun h1 => ?_)
  · simp at h1
  · try simp 
    repeat' (first
      | ((with_reducible refine PreK.intro ?_ ?_); (next => (first | omega | (intros; first | omega | (refine ⟨by omega, ?_⟩; repeat (first | assumption | constructor)) | assumption))); intro _; try simp )
      | fail)
    refine CondK.intro (fun h2 => ?_) (fun h2 => ?_)
    · simp at h2
    · try simp 
      repeat' (first
        | ((with_reducible refine PreK.intro ?_ ?_); (next => (first | omega | (intros; first | omega | (refine ⟨by omega, ?_⟩; repeat (first | assumption | constructor)) | assumption))); intro _; try simp )
        | fail)
      refine CondK.intro (fun h3 => ?_) (fun h3 => ?_)
      · simp at h3
        simp [cmpI, h3]
      · simp at h3
        try simp 
        repeat' (first
          | ((with_reducible refine PreK.intro ?_ ?_); (next => (first | omega | (intros; first | omega | (refine ⟨by omega, ?_⟩; repeat (first | assumption | constructor)) | assumption))); intro _; try simp )
          | fail)
        refine CondK.intro (fun h4 => ?_) (fun h4 => ?_)
        · simp at h4
          simp [cmpI, h4, show ¬ a < b by omega]
        · simp at h4
          simp [cmpI, show ¬ a < b by omega, show ¬ b < a by omega]
theorem cmpW_nil : cmpW [] [] = 0 := rfl
theorem cmpW_short (y : Int) (m : List Int) : cmpW [] (y :: m) = -1 := by simp [cmpW, bef]
theorem cmpW_long (x : Int) (l : List Int) : cmpW (x :: l) [] = 1 := by simp [cmpW, bef]
theorem cmpW_cons (x y : Int) (l m : List Int) : cmpW (x :: l) (y :: m) = if cmpI x y ≠ 0 then cmpI x y else cmpW l m := by
  unfold cmpW cmpI
  by_cases h : x = y
  · subst h; simp [bef]
  · by_cases h2 : x < y
    · simp [bef, h, h2]
    · have : y < x := by omega
      simp [bef, h, h2, this]
theorem Compare_c (a b : List Int) (ha : a.length ≤ big) (hb : b.length ≤ big) : CallP Try.prog 97 [ints a, ints b] (iv (cmpW a b)) := by
  refine C97 (by simp) ?_
  generalize hR : cmpW a b = R
  simp [A97]
  simp only [big] at ha hb
  refine LoopK.by (fun i : Nat => ⟨[(11, iv i), (10, iv a.length), (9, ints a), (0, ints a), (1, ints b)], []⟩) (fun i => a.length - i) (fun i => i ≤ a.length ∧ i ≤ b.length ∧ cmpW (a.drop i) (b.drop i) = R) 0 (by simpa using hR) (by simp) ?_
  intro i Q' ⟨hi, hib, hc⟩ hq he hr
  try simp 
  refine CondK.intro (fun h1 => ?_) (fun h1 => ?_)
  · simp at h1
    rw [drop_cons a i h1] at hc
    try simp [h1]
    repeat' (first
      | ((with_reducible refine PreK.intro ?_ ?_); (next => (first | omega | (intros; first | omega | (refine ⟨by omega, ?_⟩; repeat (first | assumption | constructor)) | assumption))); intro _; try simp [h1])
      | fail)
    refine CondK.intro (fun h2 => ?_) (fun h2 => ?_)
    · simp at h2
      rw [List.drop_eq_nil_of_le (show b.length ≤ i by omega), cmpW_long] at hc
      try simp 
      apply hr
      simp [hc]
    · simp at h2
      rw [drop_cons b i (by omega), cmpW_cons] at hc
      try simp [h2, h1]
      repeat' (first
        | (refine CallX.pure (cmpInt_c (el a i) (el b i)) (by simp) (by simp) ?_; try simp [h2, h1])
        | (refine CallK.intro (cmpInt_c (el a i) (el b i)) (by simp) (by simp) ?_; try simp [h2, h1])
        | (refine CallG.intro (fun _ => cmpInt_c (el a i) (el b i)) (by simp) (by simp) ?_; try simp [h2, h1])
        | ((with_reducible refine PreK.intro ?_ ?_); (next => (first | omega | (intros; first | omega | (refine ⟨by omega, ?_⟩; repeat (first | assumption | constructor)) | assumption))); intro _; try simp [h2, h1])
        | fail)
      refine CondK.intro (fun h3 => ?_) (fun h3 => ?_)
      · simp at h3
        rw [if_pos h3] at hc
        try simp 
        apply hr
        simp [hc]
      · simp at h3
        rw [if_neg (by simpa using h3)] at hc
        try simp 
        repeat' (first
          | ((with_reducible refine PreK.intro ?_ ?_); (next => (first | omega | (intros; first | omega | (refine ⟨by omega, ?_⟩; repeat (first | assumption | constructor)) | assumption))); intro _; try simp )
          | fail)
        exact hq (i + 1) _ ⟨by omega, by omega, hc⟩ (by omega) (by simp)
  · simp at h1
    rw [List.drop_eq_nil_of_le (by omega)] at hc
    try simp 
    apply he
    try simp 
    refine CondK.intro (fun h2 => ?_) (fun h2 => ?_)
    · simp at h2
      rw [drop_cons b i (by omega), cmpW_short] at hc
      simp [hc]
    · simp at h2
      rw [List.drop_eq_nil_of_le (by omega), cmpW_nil] at hc
      simp [hc]

/-- A list whose equal neighbours are one. -/
def compF (p : List Int) : List (List Int) → List (List Int)
  | [] => []
  | y :: l => if y = p then compF p l else y :: compF y l
def compW : List (List Int) → List (List Int)
  | [] => []
  | x :: l => x :: compF x l
theorem compF_num : ∀ (p : List Int) (l : List (List Int)), (compF p l).length ≤ l.length
  | p, [] => by simp [compF]
  | p, y :: l => by
    rw [compF]
    split
    · have := compF_num p l; simp; omega
    · have := compF_num y l; simp; omega
end Go.Proofs.Ytkhddecnllcaiaa
end

section
/- Contracts: equal neighbours left out, and the sort of words. -/
namespace Go.Proofs.Ytkhddecnllcaiaa
open Go.Abs Go
set_option maxRecDepth 20000
set_option maxHeartbeats 2000000
attribute [local irreducible] PreK CondK CallK CallG CallX LoopK
attribute [local simp] avsEq avEq akind teq vkind vEq

theorem take_setG {α : Type} [Inhabited α] (o : List α) (i : Nat) (v : α) (hi : i < o.length) : (o.set i v).take (i + 1) = o.take i ++ [v] := by
  rw [take_succ _ i (by simpa using hi)]
  have : el (o.set i v) i = v := by unfold el; simp [hi]
  rw [this, List.take_set, List.set_eq_of_length_le (by simp; omega)]
theorem compact_L (l : List (List Int)) (hl : l.length ≤ 1000) (hw : ∀ w ∈ l, w.length ≤ 1000) :
    CallL Try.prog 98 [] 1 (l.map ints) [.fn 89 [] []] (.part (compW l).length) ((compW l).map ints ++ List.replicate (l.length - (compW l).length) (.seq 1 [] true)) := by
  refine CL98 (by simp) ?_
  have hel : ∀ i, (el l i).length ≤ 1000 := by
    intro i
    by_cases h : i < l.length
    · exact hw _ (el_mem_of l i h)
    · unfold el; rw [List.getD_eq_getElem?_getD, List.getElem?_eq_none (by omega)]; simp [default]
  generalize hR : compW l = R
  simp [A98]
  refine CondK.intro (fun h1 => ?_) (fun h1 => ?_)
  · simp at h1
    have : R = l := by
      rw [← hR]
      match l, h1 with
      | [], _ => rfl
      | [x], _ => rfl
      | _ :: _ :: _, h1 => simp at h1; omega
    subst this
    simp
  · simp at h1
    try simp 
    have h0 : l.take 1 ++ compF (el l 0) (l.drop 1) = R := by
      rw [← hR]
      match l, h1 with
      | x :: m, _ => simp [compW, el]
    refine LoopK.by (fun k : Nat => ⟨[(5, iv ((k : Int) + 1)), (0, .sl lid 0 0 l.length), (1, .fn 89 [] [])], [(lid, some ⟨1, l.map ints, 0, false⟩)]⟩) (fun i => l.length - i) (fun k => k + 1 ≤ l.length ∧ l.take (k + 1) ++ compF (el l k) (l.drop (k + 1)) = R) 0 ⟨by omega, h0⟩ (by simp) ?_
    intro k Q' ⟨hk, hc⟩ hq he hr
    try simp 
    refine CondK.intro (fun h2 => ?_) (fun h2 => ?_)
    · simp at h2
      have h2' : k + 1 < l.length := by omega
      have h2'' : k < l.length := by omega
      have he1 := equal_c (el l (k + 1)) (el l k) (Nat.le_trans (hel _) (by unfold big; omega))
      rw [drop_cons l (k + 1) h2', compF] at hc
      repeat (refine PreK.intro (by first | omega | (intros; first | omega | (refine ⟨by omega, ?_⟩; simp_all; done) | (simp_all; done) | (simp_all; omega))) fun _ => ?_; (try simp [h2', h2'']))
      refine CallK.intro (by simpa using he1) (by simp) (by simp) ?_
      try simp 
      refine CondK.intro (fun h3 => ?_) (fun h3 => ?_)
      · simp at h3
        rw [if_pos h3, ← h3] at hc
        try simp 
        repeat' (first
          | ((with_reducible refine PreK.intro ?_ ?_); (next => (first | omega | (intros; first | omega | (refine ⟨by omega, ?_⟩; repeat (first | assumption | constructor)) | assumption))); intro _; try simp )
          | fail)
        refine LoopK.by (ι := Nat × Nat × List (List Int)) (fun x => ⟨[(7, iv ((x.1 : Int) + 1)), (5, iv x.2.1), (6, .sl lid 0 (k + 1) (l.length - (k + 1))), (0, .sl lid 0 0 l.length), (1, .fn 89 [] [])], [(lid, some ⟨1, x.2.2.map ints, 0, false⟩)]⟩) (fun x => l.length - x.1)
          (fun x => k + 1 + x.1 + 1 ≤ l.length ∧ x.2.1 ≤ k + 1 + x.1 ∧ x.2.2.length = l.length ∧ (∀ q, k + 1 + x.1 ≤ q → el x.2.2 q = el l q) ∧ x.2.2.take x.2.1 ++ compF (el l (k + 1 + x.1)) (l.drop (k + 1 + x.1 + 1)) = R) (0, k + 1, l) ⟨by dsimp only; omega, by simp, rfl, fun _ _ => rfl, hc⟩ (by simp) ?_
        intro ⟨j, i, c⟩ Q'' ⟨hj, hij, hcl, hce, hin⟩ hq' he' hr'
        dsimp only at hj hij hcl hce hin
        try simp 
        refine CondK.intro (fun h4 => ?_) (fun h4 => ?_)
        · simp at h4
          have h5 : k + 1 + j + 1 < l.length := by omega
          have e1 := hce (k + 1 + j) (by omega)
          have e2 := hce (k + 1 + (j + 1)) (by omega)
          have e3 : k + 1 + (j + 1) = k + 1 + j + 1 := rfl
          have g1 : k + 1 + j < c.length := by omega
          have g2 : k + 1 + (j + 1) < c.length := by omega
          have he2 := equal_c (el l (k + 1 + (j + 1))) (el l (k + 1 + j)) (Nat.le_trans (hel _) (by unfold big; omega))
          rw [drop_cons l _ h5, compF] at hin
          repeat (refine PreK.intro (by first | omega | (intros; first | omega | (refine ⟨by omega, ?_⟩; simp_all; done) | (simp_all; done) | (simp_all; omega))) fun _ => ?_; (try simp [g1, g2, e1, e2]))
          refine CallK.intro (by simpa using he2) (by simp) (by simp) ?_
          try simp 
          repeat (refine PreK.intro (by first | omega | (intros; first | omega | (refine ⟨by omega, ?_⟩; simp_all; done) | (simp_all; done) | (simp_all; omega))) fun _ => ?_; (try simp ))
          refine CondK.intro (fun h6 => ?_) (fun h6 => ?_)
          · simp at h6
            rw [if_neg (by rw [← e3]; exact h6)] at hin
            have g3 : i < c.length := by omega
            repeat (refine PreK.intro (by first | omega | (intros; first | omega | (refine ⟨by omega, ?_⟩; simp_all; done) | (simp_all; done) | (simp_all; omega))) fun _ => ?_; (try simp [g1, g2, e1, e2, g3]))
            refine hq' (j + 1, i + 1, c.set i (el l (k + 1 + (j + 1)))) _ ⟨by dsimp only; omega, by dsimp only; omega, by simpa using hcl, fun q hq2 => ?_, ?_⟩ (by dsimp only; omega) ?_
            · dsimp only at hq2 ⊢
              unfold el
              rw [List.getD_eq_getElem?_getD, List.getElem?_set, if_neg (by omega), ← List.getD_eq_getElem?_getD]
              exact hce q (by omega)
            · dsimp only
              rw [take_setG _ _ _ g3, List.append_assoc]
              exact hin
            · simp [List.map_set]
          · simp at h6
            rw [if_pos (by rw [← e3]; exact h6)] at hin
            repeat (refine PreK.intro (by first | omega | (intros; first | omega | (refine ⟨by omega, ?_⟩; simp_all; done) | (simp_all; done) | (simp_all; omega))) fun _ => ?_; (try simp ))
            refine hq' (j + 1, i, c) _ ⟨by dsimp only; omega, by dsimp only; omega, hcl, fun q hq2 => hce q (by dsimp only at hq2; omega), ?_⟩ (by dsimp only; omega) (by simp)
            dsimp only
            rw [h6]
            exact hin
        · simp at h4
          rw [List.drop_eq_nil_of_le (by omega)] at hin
          simp only [compF, List.append_nil] at hin
          have hRl : R.length = i := by rw [← hin]; simp; omega
          try simp 
          apply he'
          have e5 : (c.map ints).take i = R.map ints := by rw [← hin, List.map_take]
          have e6 : (c.map ints).drop (i + (l.length - i)) = [] := List.drop_eq_nil_of_le (by simp; omega)
          try simp 
          repeat' (first
            | ((with_reducible refine PreK.intro ?_ ?_); (next => (first | omega | (intros; first | omega | (refine ⟨by omega, ?_⟩; repeat (first | assumption | constructor)) | assumption))); intro _; try simp )
            | fail)
          apply hr
          simp only [e5, e6, hRl]
          try simp 
      · simp at h3
        rw [if_neg h3] at hc
        repeat (refine PreK.intro (by first | omega | (intros; first | omega | (refine ⟨by omega, ?_⟩; simp_all; done) | (simp_all; done) | (simp_all; omega))) fun _ => ?_; (try simp ))
        refine hq (k + 1) _ ⟨by omega, ?_⟩ (by omega) (by simp)
        rw [take_succ l (k + 1) h2']
        simpa using hc
    · simp at h2
      rw [List.drop_eq_nil_of_le (by omega)] at hc
      simp only [compF, List.append_nil] at hc
      rw [List.take_of_length_le (by omega)] at hc
      subst hc
      try simp 
      apply he
      try simp 
      repeat' (first
        | ((with_reducible refine PreK.intro ?_ ?_); (next => (first | omega | (intros; first | omega | (refine ⟨by omega, ?_⟩; repeat (first | assumption | constructor)) | assumption))); intro _; try simp )
        | fail)
end Go.Proofs.Ytkhddecnllcaiaa
end

section
/- Contracts: the sorted list of words. -/
namespace Go.Proofs.Ytkhddecnllcaiaa
open Go.Abs Go
set_option maxRecDepth 20000
set_option maxHeartbeats 2000000
attribute [local irreducible] PreK CondK CallK CallG CallX LoopK
attribute [local simp] avsEq avEq akind teq vkind vEq

theorem sortW_len (l : List (List Int)) : (sortW l).length = l.length := (sortW_perm l).length_eq
theorem sorted_L (l : List (List Int)) (hl : l.length ≤ 1000) (hw : ∀ w ∈ l, w.length ≤ 1000) :
    CallL Try.prog 58 [] 1 (l.map ints) [] (.part (compW (sortW l)).length) ((compW (sortW l)).map ints ++ List.replicate (l.length - (compW (sortW l)).length) (.seq 1 [] true)) := by
  refine CL58 (by simp) ?_
  have h1 : CallL Try.prog 96 [] 1 (l.map ints) [.fn 97 [] []] (.val (.tup [])) ((sortW l).map ints) := callL_sort lsort Compare_c l
  have h2 := compact_L (sortW l) (by rw [sortW_len]; exact hl) (fun w h => hw w ((sortW_perm l).mem_iff.1 h))
  have hsl := sortW_len l
  have hnum : (compW (sortW l)).length ≤ l.length := by
    rw [← hsl]
    cases sortW l with
    | nil => simp [compW]
    | cons x m => simp only [compW, List.length_cons]; have := compF_num x m; omega
  generalize sortW l = s at h1 h2 hsl hnum
  generalize compW s = c at h2 hnum
  simp [A58]
  refine CallX.lend [] (id := lid) (ver := 0) (n := l.length) (b := ⟨1, l.map ints, 0, false⟩) [.fn 97 [] []] (.val (.tup [])) _ (by simp) (by simp) (by simp) (by simp) (by simp) (by simp) (by simp) (by simpa using h1) ?_
  try simp 
  refine CallX.lend [] (id := lid) (ver := 0) (n := l.length) (b := ⟨1, s.map ints, 0, false⟩) [.fn 89 [] []] (.part c.length) _ (by simp) (by simp) (by simp) (by simp) (by simp [hsl]) (by simp) (by simp) (by simpa using h2) ?_
  simp [hsl]
end Go.Proofs.Ytkhddecnllcaiaa
end

section
/- Contracts: feed's Reach, Ends, Next. -/
namespace Go.Proofs.Ytkhddecnllcaiaa
open Go.Abs Go
set_option maxRecDepth 20000
set_option maxHeartbeats 2000000
attribute [local irreducible] PreK CondK CallK CallG CallX LoopK
attribute [local simp] avsEq avEq akind teq vkind vEq

theorem weak_intsV (l : List Int) : weak (ints l) = ints l := by simp [weak, Abs.weakL_map (f := iv) (fun _ => rfl)]
theorem weak_ruleV (r : Rule) : weak (ruleV r) = ruleV r := by simp [weak, weakL, Abs.weakL_map (f := iv) (fun _ => rfl)]
theorem weak_stepV (x : Step) : weak (stepV x) = stepV x := by simp [weak, weakL]
theorem weak_graph (k : Bool) (s : List Rule) (g : Gr) : weak (gV k s g) = graphV s g := by
  unfold gV graphV
  simp only [rulesV, wordsV, ints, stepsV, weak, weakL, Abs.weakL_map weak_ruleV, Abs.weakL_map weak_intsV, Abs.weakL_map weak_stepV, Abs.weakL_map (f := iv) (fun _ => rfl)]
theorem reach_c (s : List Rule) (w : List Int) (h : Sys.small s) (hs : sysErr s = 0) (hw : wordErr w = 0) : CallP Try.prog 69 [rulesV s, ints w] (reachV s (reachG s w)) := by
  have hx := (reach_x s w h hs hw).weakR
  have e : ∀ R, weakR (reachX s R) = reachV s R := by
    intro R
    cases R with
    | none => rfl
    | some g => simp only [reachX, reachV, weakR, weakRL, weak_graph]; rfl
  rwa [e] at hx
def reachedV (s : List Rule) (w : Word) : AV := if swErr s w ≠ 0 then .tup [.raw (.pointer none), iv (swErr s w)] else reachV s (reachG s w)
theorem reached_c (s : List Rule) (w : List Int) (h : Sys.small s) (hw : w.length ≤ 1000) : CallP Try.prog 56 [rulesV s, ints w] (reachedV s w) := by
  refine C56 (by simp) ?_
  have hck := check_c s [w] h (by simp) (by simpa using hw)
  rw [check_one] at hck
  simp [A56]
  refine CallX.pure (CallP.weak (by simpa [weakL, weak] using hck)) (by simp) (by simp) ?_
  try simp 
  refine CondK.intro (fun h1 => ?_) (fun h1 => ?_)
  · simp at h1
    simp [reachedV, h1]
  · simp at h1
    have hrc := reach_c s w h (swErr_zero h1).1 (swErr_zero h1).2
    have e : reachedV s w = reachV s (reachG s w) := by simp [reachedV, h1]
    rw [e]
    cases hg : reachG s w with
    | none =>
      rw [hg] at hrc
      simp only [reachV] at hrc ⊢
      try simp 
      repeat' (first
        | (refine CallX.pure (hrc) (by simp) (by simp) ?_; try simp )
        | (refine CallK.intro (hrc) (by simp) (by simp) ?_; try simp )
        | (refine CallG.intro (fun _ => hrc) (by simp) (by simp) ?_; try simp )
        | ((with_reducible refine PreK.intro ?_ ?_); (next => (first | omega | (intros; first | omega | (refine ⟨by omega, ?_⟩; repeat (first | assumption | constructor)) | assumption))); intro _; try simp )
        | fail)
    | some g =>
      rw [hg] at hrc
      simp only [reachV] at hrc ⊢
      try simp 
      repeat' (first
        | (refine CallX.pure (hrc) (by simp) (by simp) ?_; try simp )
        | (refine CallK.intro (hrc) (by simp) (by simp) ?_; try simp )
        | (refine CallG.intro (fun _ => hrc) (by simp) (by simp) ?_; try simp )
        | ((with_reducible refine PreK.intro ?_ ?_); (next => (first | omega | (intros; first | omega | (refine ⟨by omega, ?_⟩; repeat (first | assumption | constructor)) | assumption))); intro _; try simp )
        | fail)
/-- The words, each once, in order. -/
def uniq (l : List Word) : List Word := compW (sortW l)
theorem uniq_len (l : List Word) : (uniq l).length ≤ l.length := by
  unfold uniq
  have := (sortW_perm l).length_eq
  rw [← this]
  cases sortW l with
  | nil => simp [compW]
  | cons x m => simp only [compW, List.length_cons]; have := compF_num x m; omega
def ReachE (s : List Rule) (w : Word) : List Word × Int := if swErr s w ≠ 0 then ([], swErr s w) else match reachG s w with
  | none => ([], 3)
  | some g => (uniq g.ws, 0)
theorem addG_ok {s : List Rule} {i : Nat} : ∀ {l : List Move} {g g' : Gr}, (∀ m ∈ l, wordErr m.word = 0) → g.ok → addG i g l = some g' → g'.ok
  | [], g, g', _, h, e => by
    simp only [addG, Option.some.injEq] at e
    subst e; exact h
  | m :: l, g, g', hl, h, e => by
    rw [addG] at e
    split at e
    · exact addG_ok (s := s) (fun x hx => hl x (by simp [hx])) h e
    · split at e
      · cases e
      · rename_i h3
        exact addG_ok (s := s) (fun x hx => hl x (by simp [hx])) (h.push (hl m (by simp)) h3) e
theorem closeG_ok {s : List Rule} (hs : sysErr s = 0) : ∀ {n i : Nat} {g g' : Gr}, g.ok → closeG s n i g = some g' → g'.ok
  | 0, i, g, g', h, e => by
    simp only [closeG, Option.some.injEq] at e
    subst e; exact h
  | n + 1, i, g, g', h, e => by
    rw [closeG] at e
    split at e
    · rename_i hi
      cases ha : addG i g (movesM s (el g.ws i)) with
      | none => rw [ha] at e; cases e
      | some g2 =>
        rw [ha] at e
        exact closeG_ok hs (addG_ok (s := s) (fun m hm => moves_right hs (h.fine _ (el_mem_of g.ws i hi)) hm) h ha) e
    · simp only [Option.some.injEq] at e
      subst e; exact h
theorem reachG_ok {s : List Rule} {w : Word} {g : Gr} (h : swErr s w = 0) (e : reachG s w = some g) : g.ok := closeG_ok (swErr_zero h).1 (Gr.start (swErr_zero h).2) e
theorem Reach_c (s : List Rule) (w : List Int) (h : Sys.small s) (hw : w.length ≤ 1000) : CallP Try.prog 19 [rulesV s, ints w] (.tup [wordsV (ReachE s w).1, iv (ReachE s w).2]) := by
  refine C19 (by simp) ?_
  have hrc := reached_c s w h hw
  by_cases h1 : swErr s w = 0
  · have e1 : reachedV s w = reachV s (reachG s w) := by simp [reachedV, h1]
    rw [e1] at hrc
    cases hg : reachG s w with
    | none =>
      rw [hg] at hrc
      have e2 : ReachE s w = ([], 3) := by simp [ReachE, h1, hg]
      rw [e2]
      simp only [reachV] at hrc
      simp [A19]
      try simp 
      repeat' (first
        | (refine CallX.pure (hrc) (by simp) (by simp) ?_; try simp )
        | (refine CallK.intro (hrc) (by simp) (by simp) ?_; try simp )
        | (refine CallG.intro (fun _ => hrc) (by simp) (by simp) ?_; try simp )
        | ((with_reducible refine PreK.intro ?_ ?_); (next => (first | omega | (intros; first | omega | (refine ⟨by omega, ?_⟩; repeat (first | assumption | constructor)) | assumption))); intro _; try simp )
        | fail)
      refine CondK.intro (fun h2 => ?_) (fun h2 => ?_)
      · try simp 
        repeat' (first
          | ((with_reducible refine PreK.intro ?_ ?_); (next => (first | omega | (intros; first | omega | (refine ⟨by omega, ?_⟩; repeat (first | assumption | constructor)) | assumption))); intro _; try simp )
          | fail)
      · simp at h2
    | some g =>
      rw [hg] at hrc
      have hok := reachG_ok h1 hg
      have hnum := hok.num
      have e2 : ReachE s w = (uniq g.ws, 0) := by simp [ReachE, h1, hg]
      rw [e2]
      simp only [reachV, graphV] at hrc
      simp [A19]
      try simp 
      repeat' (first
        | (refine CallX.pure (hrc) (by simp) (by simp) ?_; try simp )
        | (refine CallK.intro (hrc) (by simp) (by simp) ?_; try simp )
        | (refine CallG.intro (fun _ => hrc) (by simp) (by simp) ?_; try simp )
        | ((with_reducible refine PreK.intro ?_ ?_); (next => (first | omega | (intros; first | omega | (refine ⟨by omega, ?_⟩; repeat (first | assumption | constructor)) | assumption))); intro _; try simp )
        | fail)
      refine CondK.intro (fun h2 => ?_) (fun h2 => ?_)
      · simp at h2
      · try simp 
        repeat' (first
          | ((with_reducible refine PreK.intro ?_ ?_); (next => (first | omega | (intros; first | omega | (refine ⟨by omega, ?_⟩; repeat (first | assumption | constructor)) | assumption))); intro _; try simp )
          | fail)
        refine LoopK.by (ι := Nat × Nat) (fun x => ⟨[(25, iv x.1), (24, iv g.ws.length), (23, wordsV g.ws), (8, .sl 8 x.2 0 x.1)], [(8, some ⟨1, (g.ws.take x.1).map ints, x.2, false⟩)]⟩) (fun x => g.ws.length - x.1) (fun x => x.1 ≤ g.ws.length) (0, 1) (by simp) (by simp) ?_
        intro ⟨i, v⟩ Q' hi hq he hr
        dsimp only at hi
        try simp 
        refine CondK.intro (fun h3 => ?_) (fun h3 => ?_)
        · simp at h3
          have hwl := (wordErr_zero (hok.fine _ (el_mem_of g.ws i h3))).1
          try simp [h3]
          repeat' (first
            | (refine CallX.pure ((clone_o (el g.ws i) (by omega)).toP) (by simp) (by simp) ?_; try simp [h3])
            | (refine CallK.intro ((clone_o (el g.ws i) (by omega)).toP) (by simp) (by simp) ?_; try simp [h3])
            | (refine CallG.intro (fun _ => (clone_o (el g.ws i) (by omega)).toP) (by simp) (by simp) ?_; try simp [h3])
            | ((with_reducible refine PreK.intro ?_ ?_); (next => (first | omega | (intros; first | omega | (refine ⟨by omega, ?_⟩; repeat (first | assumption | constructor)) | assumption))); intro _; try simp [h3])
            | fail)
          refine hq (i + 1, v + 1) _ (by dsimp only; omega) (by dsimp only; omega) ?_
          have e5 : List.take (i + 1) (g.ws.map ints) = List.take i (g.ws.map ints) ++ [ints (el g.ws i)] := by rw [← List.map_take, ← List.map_take, take_succ g.ws i h3]; simp
          simp only [ints] at e5
          simp [List.take_take, e5]
        · simp at h3
          have hil : i = g.ws.length := by omega
          subst hil
          try simp 
          apply he
          have hsl := sorted_L g.ws (by omega) (fun x hx => by
            have := (wordErr_zero (hok.fine x hx)).1
            omega)
          have hsl2 : CallL Try.prog 58 [] 1 (g.ws.map ints) [] (.part (uniq g.ws).length) ((uniq g.ws).map ints ++ List.replicate (g.ws.length - (uniq g.ws).length) (.seq 1 [] true)) := hsl
          generalize uniq g.ws = U at hsl2
          try simp 
          refine CallX.lend [] (id := 8) (ver := v) (n := g.ws.length) (b := ⟨1, g.ws.map ints, v, false⟩) [] (.part U.length) _ (by simp) (by simp) (by simp) (by simp) (by simp) (by simp) (by simp) (by simpa using hsl2) ?_
          try simp 
  · have e1 : reachedV s w = .tup [.raw (.pointer none), iv (swErr s w)] := by simp [reachedV, h1]
    rw [e1] at hrc
    have e2 : ReachE s w = ([], swErr s w) := by simp [ReachE, h1]
    rw [e2]
    simp [A19]
    try simp 
    repeat' (first
      | (refine CallX.pure (hrc) (by simp) (by simp) ?_; try simp )
      | (refine CallK.intro (hrc) (by simp) (by simp) ?_; try simp )
      | (refine CallG.intro (fun _ => hrc) (by simp) (by simp) ?_; try simp )
      | ((with_reducible refine PreK.intro ?_ ?_); (next => (first | omega | (intros; first | omega | (refine ⟨by omega, ?_⟩; repeat (first | assumption | constructor)) | assumption))); intro _; try simp )
      | fail)
    refine CondK.intro (fun h2 => ?_) (fun h2 => ?_)
    · try simp 
      repeat' (first
        | ((with_reducible refine PreK.intro ?_ ?_); (next => (first | omega | (intros; first | omega | (refine ⟨by omega, ?_⟩; repeat (first | assumption | constructor)) | assumption))); intro _; try simp )
        | fail)
    · simp at h2
      exact absurd h2 h1
end Go.Proofs.Ytkhddecnllcaiaa
end

section
/- Contracts: feed's Ends. -/
namespace Go.Proofs.Ytkhddecnllcaiaa
open Go.Abs Go
set_option maxRecDepth 20000
set_option maxHeartbeats 2000000
attribute [local irreducible] PreK CondK CallK CallG CallX LoopK
attribute [local simp] avsEq avEq akind teq vkind vEq

def isEndM (s : List Rule) (u : Word) : Bool := decide ((movesM s u).length = 0)
theorem ends_c (s : List Rule) (g : Gr) (h : Sys.small s) (hs : sysErr s = 0) (hok : g.ok) : CallP Try.prog 59 [.ipt (graphV s g) 0] (wordsV (uniq (g.ws.filter (isEndM s)))) := by
  refine C59 (by simp) ?_
  have hnum := hok.num
  generalize hF : g.ws.filter (isEndM s) = F
  simp [A59, graphV]
  refine LoopK.by (ι := Nat × Nat × List Word) (fun x => ⟨[(0, .ipt (graphV s g) 0), (11, iv x.1), (10, iv g.ws.length), (9, wordsV g.ws), (3, .sl 3 x.2.1 0 x.2.2.length)], [(3, some ⟨1, x.2.2.map ints, x.2.1, false⟩)]⟩) (fun x => g.ws.length - x.1)
    (fun x => x.1 ≤ g.ws.length ∧ x.2.2.length ≤ x.1 ∧ (∀ y ∈ x.2.2, y.length ≤ 8) ∧ x.2.2 ++ (g.ws.drop x.1).filter (isEndM s) = F) (0, 1, []) (by simpa using hF) (by simp [graphV]) ?_
  intro ⟨i, v, k⟩ Q' ⟨hi, hk, hk8, hc⟩ hq he hr
  dsimp only at hi hk hk8 hc
  simp only [graphV]
  try simp 
  refine CondK.intro (fun h1 => ?_) (fun h1 => ?_)
  · simp at h1
    have hu := hok.fine _ (el_mem_of g.ws i h1)
    have hwl := (wordErr_zero hu).1
    rw [drop_cons g.ws i h1, List.filter_cons] at hc
    try simp [h1]
    repeat' (first
      | (refine CallX.pure (moves_c s (el g.ws i) h hs hu) (by simp) (by simp) ?_; try simp [h1])
      | (refine CallK.intro (moves_c s (el g.ws i) h hs hu) (by simp) (by simp) ?_; try simp [h1])
      | (refine CallG.intro (fun _ => moves_c s (el g.ws i) h hs hu) (by simp) (by simp) ?_; try simp [h1])
      | ((with_reducible refine PreK.intro ?_ ?_); (next => (first | omega | (intros; first | omega | (refine ⟨by omega, ?_⟩; repeat (first | assumption | constructor)) | assumption))); intro _; try simp [h1])
      | fail)
    refine CondK.intro (fun h2 => ?_) (fun h2 => ?_)
    · have e : isEndM s (el g.ws i) = true := by (try simp at h2); unfold isEndM; simp [h2]
      rw [if_pos e] at hc
      try simp [h1]
      repeat' (first
        | (refine CallX.pure ((clone_o (el g.ws i) (by omega)).toP) (by simp) (by simp) ?_; try simp [h1])
        | (refine CallK.intro ((clone_o (el g.ws i) (by omega)).toP) (by simp) (by simp) ?_; try simp [h1])
        | (refine CallG.intro (fun _ => (clone_o (el g.ws i) (by omega)).toP) (by simp) (by simp) ?_; try simp [h1])
        | ((with_reducible refine PreK.intro ?_ ?_); (next => (first | omega | (intros; first | omega | (refine ⟨by omega, ?_⟩; repeat (first | assumption | constructor)) | assumption))); intro _; try simp [h1])
        | fail)
      refine hq (i + 1, v + 1, k ++ [el g.ws i]) _ ⟨by dsimp only; omega, by simp; omega, fun y hy => ?_, by simpa using hc⟩ (by dsimp only; omega) (by simp [graphV])
      rcases List.mem_append.1 hy with hy | hy
      · exact hk8 y hy
      · simp only [List.mem_singleton] at hy
        subst hy; exact hwl
    · have e : isEndM s (el g.ws i) = false := by (try simp at h2); unfold isEndM; simp [h2]
      rw [if_neg (by simp [e])] at hc
      try simp 
      repeat' (first
        | ((with_reducible refine PreK.intro ?_ ?_); (next => (first | omega | (intros; first | omega | (refine ⟨by omega, ?_⟩; repeat (first | assumption | constructor)) | assumption))); intro _; try simp )
        | fail)
      exact hq (i + 1, v, k) _ ⟨by dsimp only; omega, by dsimp only; omega, hk8, hc⟩ (by dsimp only; omega) (by simp [graphV])
  · simp at h1
    rw [List.drop_eq_nil_of_le (by omega)] at hc
    simp only [List.filter_nil, List.append_nil] at hc
    subst hc
    try simp 
    apply he
    have hsl := sorted_L k (by omega) (fun x hx => by have := hk8 x hx; omega)
    have hsl2 : CallL Try.prog 58 [] 1 (k.map ints) [] (.part (uniq k).length) ((uniq k).map ints ++ List.replicate (k.length - (uniq k).length) (.seq 1 [] true)) := hsl
    generalize uniq k = U at hsl2
    try simp 
    refine CallX.lend [] (id := 3) (ver := v) (n := k.length) (b := ⟨1, k.map ints, v, false⟩) [] (.part U.length) _ (by simp) (by simp) (by simp) (by simp) (by simp) (by simp) (by simp) (by simpa using hsl2) ?_
    try simp 
def EndsE (s : List Rule) (w : Word) : List Word × Int := if swErr s w ≠ 0 then ([], swErr s w) else match reachG s w with
  | none => ([], 3)
  | some g => (uniq (g.ws.filter (isEndM s)), 0)
theorem Ends_c (s : List Rule) (w : List Int) (h : Sys.small s) (hw : w.length ≤ 1000) : CallP Try.prog 21 [rulesV s, ints w] (.tup [wordsV (EndsE s w).1, iv (EndsE s w).2]) := by
  refine C21 (by simp) ?_
  have hrc := reached_c s w h hw
  by_cases h1 : swErr s w = 0
  · have e1 : reachedV s w = reachV s (reachG s w) := by simp [reachedV, h1]
    rw [e1] at hrc
    cases hg : reachG s w with
    | none =>
      rw [hg] at hrc
      have e2 : EndsE s w = ([], 3) := by simp [EndsE, h1, hg]
      rw [e2]
      simp only [reachV] at hrc
      simp [A21]
      try simp 
      repeat' (first
        | (refine CallX.pure (hrc) (by simp) (by simp) ?_; try simp )
        | (refine CallK.intro (hrc) (by simp) (by simp) ?_; try simp )
        | (refine CallG.intro (fun _ => hrc) (by simp) (by simp) ?_; try simp )
        | ((with_reducible refine PreK.intro ?_ ?_); (next => (first | omega | (intros; first | omega | (refine ⟨by omega, ?_⟩; repeat (first | assumption | constructor)) | assumption))); intro _; try simp )
        | fail)
      refine CondK.intro (fun h2 => ?_) (fun h2 => ?_)
      · try simp 
        repeat' (first
          | ((with_reducible refine PreK.intro ?_ ?_); (next => (first | omega | (intros; first | omega | (refine ⟨by omega, ?_⟩; repeat (first | assumption | constructor)) | assumption))); intro _; try simp )
          | fail)
      · simp at h2
    | some g =>
      rw [hg] at hrc
      have hec := ends_c s g h (swErr_zero h1).1 (reachG_ok h1 hg)
      have e2 : EndsE s w = (uniq (g.ws.filter (isEndM s)), 0) := by simp [EndsE, h1, hg]
      rw [e2]
      simp only [reachV, graphV] at hrc
      simp only [graphV] at hec
      generalize uniq (g.ws.filter (isEndM s)) = U at hec
      simp [A21]
      try simp 
      repeat' (first
        | (refine CallX.pure (hrc) (by simp) (by simp) ?_; try simp )
        | (refine CallK.intro (hrc) (by simp) (by simp) ?_; try simp )
        | (refine CallG.intro (fun _ => hrc) (by simp) (by simp) ?_; try simp )
        | ((with_reducible refine PreK.intro ?_ ?_); (next => (first | omega | (intros; first | omega | (refine ⟨by omega, ?_⟩; repeat (first | assumption | constructor)) | assumption))); intro _; try simp )
        | fail)
      refine CondK.intro (fun h2 => ?_) (fun h2 => ?_)
      · simp at h2
      · try simp 
        repeat' (first
          | (refine CallX.pure (hec) (by simp) (by simp) ?_; try simp )
          | (refine CallK.intro (hec) (by simp) (by simp) ?_; try simp )
          | (refine CallG.intro (fun _ => hec) (by simp) (by simp) ?_; try simp )
          | ((with_reducible refine PreK.intro ?_ ?_); (next => (first | omega | (intros; first | omega | (refine ⟨by omega, ?_⟩; repeat (first | assumption | constructor)) | assumption))); intro _; try simp )
          | fail)
  · have e1 : reachedV s w = .tup [.raw (.pointer none), iv (swErr s w)] := by simp [reachedV, h1]
    rw [e1] at hrc
    have e2 : EndsE s w = ([], swErr s w) := by simp [EndsE, h1]
    rw [e2]
    simp [A21]
    try simp 
    repeat' (first
      | (refine CallX.pure (hrc) (by simp) (by simp) ?_; try simp )
      | (refine CallK.intro (hrc) (by simp) (by simp) ?_; try simp )
      | (refine CallG.intro (fun _ => hrc) (by simp) (by simp) ?_; try simp )
      | ((with_reducible refine PreK.intro ?_ ?_); (next => (first | omega | (intros; first | omega | (refine ⟨by omega, ?_⟩; repeat (first | assumption | constructor)) | assumption))); intro _; try simp )
      | fail)
    refine CondK.intro (fun h2 => ?_) (fun h2 => ?_)
    · try simp 
      repeat' (first
        | ((with_reducible refine PreK.intro ?_ ?_); (next => (first | omega | (intros; first | omega | (refine ⟨by omega, ?_⟩; repeat (first | assumption | constructor)) | assumption))); intro _; try simp )
        | fail)
    · simp at h2
      exact absurd h2 h1
end Go.Proofs.Ytkhddecnllcaiaa
end

section
/- Contracts: equal lists; what is known of feed. -/
namespace Go.Proofs.Ytkhddecnllcaiaa
open Go.Abs Go
set_option maxRecDepth 20000
set_option maxHeartbeats 2000000
attribute [local irreducible] PreK CondK CallK CallG CallX LoopK
attribute [local simp] avsEq avEq akind teq vkind vEq

theorem same1_c (a b : List Int) (ha : a.length ≤ big) : CallP Try.prog 8 [ints a, ints b] (bv (decide (a = b))) := by
  refine C8 (by simp) ?_
  generalize hR : decide (a = b) = R
  simp [A8]
  refine CondK.intro (fun h => ?_) (fun h => ?_)
  · simp at h
    have : a ≠ b := fun e => h (by rw [e])
    simp [this] at hR
    simp [hR]
  · simp at h
    simp
    refine LoopK.by (fun i : Nat => ⟨[(5, iv i), (4, bv false), (0, ints a), (1, ints b)], []⟩) (fun i => a.length - i) (fun i => i ≤ a.length ∧ decide (a.drop i = b.drop i) = R) 0 (by simpa using hR) (by simp) ?_
    intro i Q' ⟨hi, hc⟩ hq he hr
    simp
    refine CondK.intro (fun h2 => ?_) (fun h2 => ?_)
    · simp at h2
      rw [drop_cons a i h2, drop_cons b i (by omega)] at hc
      simp [h2, show i < b.length by omega]
      refine CondK.intro (fun h3 => ?_) (fun h3 => ?_)
      · simp at h3
        simp [h3] at hc
        simp
        apply hr
        simp [hc]
      · simp at h3
        simp [h3] at hc
        simp
        refine PreK.intro (by simp only [big] at ha; omega) fun _ => ?_
        simp
        exact hq (i + 1) _ ⟨by omega, by simpa using hc⟩ (by omega) (by simp)
    · simp at h2
      rw [List.drop_eq_nil_of_le (by omega), List.drop_eq_nil_of_le (by omega)] at hc
      simp at hc
      simp
      apply he
      simp [hc]
theorem sameLists_c (a b : List Word) (ha : a.length ≤ big) (hw : ∀ x ∈ a, x.length ≤ big) : CallP Try.prog 34 [wordsV a, wordsV b] (bv (decide (a = b))) := by
  refine C34 (by simp) ?_
  generalize hR : decide (a = b) = R
  simp only [big] at ha
  simp [A34]
  refine CondK.intro (fun h => ?_) (fun h => ?_)
  · simp at h
    have : a ≠ b := fun e => h (by rw [e])
    simp [this] at hR
    simp [hR]
  · simp at h
    try simp 
    refine LoopK.by (fun i : Nat => ⟨[(5, iv i), (0, wordsV a), (1, wordsV b)], []⟩) (fun i => a.length - i) (fun i => i ≤ a.length ∧ decide (a.drop i = b.drop i) = R) 0 (by simpa using hR) (by simp) ?_
    intro i Q' ⟨hi, hc⟩ hq he hr
    try simp 
    refine CondK.intro (fun h2 => ?_) (fun h2 => ?_)
    · simp at h2
      have h2b : i < b.length := by omega
      have hs := same1_c (el a i) (el b i) (hw _ (el_mem_of a i h2))
      rw [drop_cons a i h2, drop_cons b i h2b] at hc
      repeat (refine PreK.intro (by first | omega | (intros; first | omega | (refine ⟨by omega, ?_⟩; simp_all; done) | (simp_all; done) | (simp_all; omega))) fun _ => ?_; (try simp [h2, h2b]))
      refine CallK.intro (by simpa using hs) (by simp) (by simp) ?_
      try simp 
      repeat (refine PreK.intro (by first | omega | (intros; first | omega | (refine ⟨by omega, ?_⟩; simp_all; done) | (simp_all; done) | (simp_all; omega))) fun _ => ?_; (try simp ))
      refine CondK.intro (fun h3 => ?_) (fun h3 => ?_)
      · simp at h3
        simp [h3] at hc
        try simp 
        apply hr
        simp [hc]
      · simp at h3
        simp [h3] at hc
        repeat (refine PreK.intro (by first | omega | (intros; first | omega | (refine ⟨by omega, ?_⟩; simp_all; done) | (simp_all; done) | (simp_all; omega))) fun _ => ?_; (try simp ))
        exact hq (i + 1) _ ⟨by omega, by simpa using hc⟩ (by omega) (by simp)
    · simp at h2
      rw [List.drop_eq_nil_of_le (by omega), List.drop_eq_nil_of_le (by omega)] at hc
      simp at hc
      try simp 
      apply he
      simp [hc]
theorem known_c : CallP Try.prog 36 [] (bv true) := by
  refine C36 (by simp) ?_
  have s1 : Sys.small [⟨0, [1, 1], [], []⟩, ⟨1, [], [], []⟩] := ⟨by simp, by intro r hr; simp at hr; rcases hr with rfl | rfl <;> exact ⟨by simp, by simp, by simp⟩⟩
  have s2 : Sys.small [⟨0, [1], [], []⟩, ⟨0, [2], [], []⟩] := ⟨by simp, by intro r hr; simp at hr; rcases hr with rfl | rfl <;> exact ⟨by simp, by simp, by simp⟩⟩
  have hW := Weights_c [⟨0, [1, 1], [], []⟩, ⟨1, [], [], []⟩] s1
  have hE := Ends_c [⟨0, [1], [], []⟩, ⟨0, [2], [], []⟩] [0] s2 (by simp)
  have e1 : WeightsR [⟨0, [1, 1], [], []⟩, ⟨1, [], [], []⟩] = ([3, 1, 0, 0, 0, 0], true, 0) := by decide
  have e2 : EndsE [⟨0, [1], [], []⟩, ⟨0, [2], [], []⟩] [0] = ([[1], [2]], 0) := by decide
  rw [e1] at hW
  rw [e2] at hE
  simp [A36]
  simp at hW hE
  refine CallX.pure (CallP.weak (by simpa [weakL, weak] using hW)) (by simp) (by simp) ?_
  try simp 
  refine CallX.pure (CallP.weak (by simpa [weakL, weak] using hE)) (by simp) (by simp) ?_
  have h1 := same1_c [3, 1, 0, 0, 0, 0] [3, 1, 0, 0, 0, 0] (by simp [big])
  have h2 := sameLists_c [[1], [2]] [[1], [2]] (by simp [big]) (by simp [big])
  simp at h2
  try simp 
  repeat' (first
    | (refine CallX.pure (h1) (by simp) (by simp) ?_; try simp )
    | (refine CallK.intro (h1) (by simp) (by simp) ?_; try simp )
    | (refine CallG.intro (fun _ => h1) (by simp) (by simp) ?_; try simp )
    | ((with_reducible refine PreK.intro ?_ ?_); (next => (first | omega | (intros; first | omega | (refine ⟨by omega, ?_⟩; repeat (first | assumption | constructor)) | assumption))); intro _; try simp )
    | fail)
  refine CallG.intro (fun _ => CallP.weak (by simpa [weakL, weak] using h2)) (by simp) (by simp) ?_
  try simp 
end Go.Proofs.Ytkhddecnllcaiaa
end

section
/- Plain: where two derivations differ first; equal ones end alike. -/
namespace Go.Proofs.Ytkhddecnllcaiaa
open Go.Abs Go

end Go.Proofs.Ytkhddecnllcaiaa
end

section
/- Contracts: where derivations differ, and the statement OrderDiffers. -/
namespace Go.Proofs.Ytkhddecnllcaiaa
open Go.Abs Go
attribute [local simp] avsEq avEq akind teq vkind vEq

end Go.Proofs.Ytkhddecnllcaiaa
end

section
/- Contracts: all words; the words that have a form. -/
namespace Go.Proofs.Ytkhddecnllcaiaa
open Go.Abs Go
attribute [local simp] avsEq avEq akind teq vkind vEq

theorem take_map_one {α β : Type} (f : α → β) (l : List α) (x : β) : (l.map f ++ [x]).take (l.length + 1) = l.map f ++ [x] := by rw [List.take_of_length_le (by simp)]
end Go.Proofs.Ytkhddecnllcaiaa
end

section
/- Contracts: lists of words in order; Bases on both sides, and the statement OrderBases. -/
namespace Go.Proofs.Ytkhddecnllcaiaa
open Go.Abs Go
set_option maxRecDepth 20000
set_option maxHeartbeats 2000000
attribute [local irreducible] PreK CondK CallK CallG CallX LoopK
attribute [local simp] avsEq avEq akind teq vkind vEq

end Go.Proofs.Ytkhddecnllcaiaa
end

section
/- Contracts: the statement FeedSteps. -/
namespace Go.Proofs.Ytkhddecnllcaiaa
open Go.Abs Go
attribute [local simp] avsEq avEq akind teq vkind vEq

end Go.Proofs.Ytkhddecnllcaiaa
end

section
/- Contracts: the statement FeedSteps as a contract. -/
namespace Go.Proofs.Ytkhddecnllcaiaa
open Go.Abs Go
set_option maxRecDepth 20000
set_option maxHeartbeats 2000000
attribute [local irreducible] PreK CondK CallK CallG CallX LoopK
attribute [local simp] avsEq avEq akind teq vkind vEq

theorem large2_c (l : List Int) : CallP Try.prog 44 [ints l] (bv (decide (100 < l.length))) := by
  refine C44 (by simp) ?_
  simp [A44]
  omega
theorem large3_c (l : List Int) : CallP Try.prog 35 [ints l] (bv (decide (100 < l.length))) := by
  refine C35 (by simp) ?_
  simp [A35]
  omega
def longT (r : Rule) : Bool := decide (100 < r.to.length) || (decide (100 < r.left.length) || decide (100 < r.right.length))
theorem long2_c (r : Rule) : CallP Try.prog 9 [ruleV r] (bv (longT r)) := by
  refine C9 (by simp) ?_
  simp [A9]
  try simp 
  repeat' (first
    | (refine CallX.pure (large2_c r.to) (by simp) (by simp) ?_; try simp )
    | (refine CallK.intro (large2_c r.to) (by simp) (by simp) ?_; try simp )
    | (refine CallG.intro (fun _ => large2_c r.to) (by simp) (by simp) ?_; try simp )
    | (refine CallX.pure (large2_c r.left) (by simp) (by simp) ?_; try simp )
    | (refine CallK.intro (large2_c r.left) (by simp) (by simp) ?_; try simp )
    | (refine CallG.intro (fun _ => large2_c r.left) (by simp) (by simp) ?_; try simp )
    | (refine CallX.pure (large2_c r.right) (by simp) (by simp) ?_; try simp )
    | (refine CallK.intro (large2_c r.right) (by simp) (by simp) ?_; try simp )
    | (refine CallG.intro (fun _ => large2_c r.right) (by simp) (by simp) ?_; try simp )
    | ((with_reducible refine PreK.intro ?_ ?_); (next => (first | omega | (intros; first | omega | (refine ⟨by omega, ?_⟩; repeat (first | assumption | constructor)) | assumption))); intro _; try simp )
    | fail)
  simp [longT, Bool.or_assoc]
def longS (s : List Rule) : Bool := decide (50 < s.length) || s.any longT
theorem long3_c (s : List Rule) (h : s.length ≤ big) : CallP Try.prog 18 [rulesV s] (bv (longS s)) := by
  refine C18 (by simp) ?_
  generalize hR : longS s = R
  unfold longS at hR
  simp only [big] at h
  simp [A18]
  refine CondK.intro (fun h1 => ?_) (fun h1 => ?_)
  · simp at h1
    simp [show 50 < s.length by omega] at hR
    simp [← hR]
  · simp at h1
    simp only [show ¬ 50 < s.length by omega, decide_false, Bool.false_or] at hR
    try simp 
    refine LoopK.by (fun i : Nat => ⟨[(3, iv i), (0, rulesV s)], []⟩) (fun i => s.length - i) (fun i => i ≤ s.length ∧ (s.drop i).any longT = R) 0 (by simpa using hR) (by simp) ?_
    intro i Q' ⟨hi, hc⟩ hq he hr
    try simp 
    refine CondK.intro (fun h2 => ?_) (fun h2 => ?_)
    · simp at h2
      rw [drop_cons s i h2, List.any_cons] at hc
      try simp [h2]
      repeat' (first
        | (refine CallX.pure (long2_c (el s i)) (by simp) (by simp) ?_; try simp [h2])
        | (refine CallK.intro (long2_c (el s i)) (by simp) (by simp) ?_; try simp [h2])
        | (refine CallG.intro (fun _ => long2_c (el s i)) (by simp) (by simp) ?_; try simp [h2])
        | ((with_reducible refine PreK.intro ?_ ?_); (next => (first | omega | (intros; first | omega | (refine ⟨by omega, ?_⟩; repeat (first | assumption | constructor)) | assumption))); intro _; try simp [h2])
        | fail)
      refine CondK.intro (fun h3 => ?_) (fun h3 => ?_)
      · rw [h3] at hc
        try simp 
        apply hr
        simp [← hc]
      · rw [h3] at hc
        try simp 
        repeat' (first
          | ((with_reducible refine PreK.intro ?_ ?_); (next => (first | omega | (intros; first | omega | (refine ⟨by omega, ?_⟩; repeat (first | assumption | constructor)) | assumption))); intro _; try simp )
          | fail)
        exact hq (i + 1) _ ⟨by omega, by simpa using hc⟩ (by omega) (by simp)
    · simp at h2
      rw [List.drop_eq_nil_of_le (by omega)] at hc
      try simp 
      apply he
      simp [← hc]
theorem longS_small {s : List Rule} (h : longS s = false) : Sys.small s := by
  unfold longS at h
  simp only [Bool.or_eq_false_iff, decide_eq_false_iff_not, List.any_eq_false] at h
  refine ⟨by omega, fun r hr => ?_⟩
  have := h.2 r hr
  unfold longT at this
  simp only [Bool.or_eq_true, decide_eq_true_eq, not_or] at this
  exact ⟨by omega, by omega, by omega⟩
end Go.Proofs.Ytkhddecnllcaiaa
end

section
/- Plain: words put in order one by one, and sorted all at once, are the same. -/
namespace Go.Proofs.Ytkhddecnllcaiaa
open Go.Abs Go

/-- A word put in its place; left out if it is there. -/
def insM (x : Word) : List Word → List Word
  | [] => [x]
  | y :: l => if bef y x then y :: insM x l else if y = x then y :: l else x :: y :: l
theorem mem_insM {x z : Word} : ∀ {l : List Word}, z ∈ insM x l ↔ z = x ∨ z ∈ l
  | [] => by simp [insM]
  | y :: l => by
    rw [insM]
    split
    · simp only [List.mem_cons, mem_insM (l := l)]
      constructor
      · rintro (h | h | h)
        · exact .inr (.inl h)
        · exact .inl h
        · exact .inr (.inr h)
      · rintro (h | h | h)
        · exact .inr (.inl h)
        · exact .inl h
        · exact .inr (.inr h)
    · split
      · rename_i h
        subst h
        simp
      · simp
theorem insM_sorted {x : Word} : ∀ {l : List Word}, sortedW l → sortedW (insM x l)
  | [], _ => by simp [insM, sortedW]
  | y :: l, h => by
    have h0 := h
    unfold sortedW at h
    rw [List.pairwise_cons] at h
    rw [insM]
    split
    · rename_i hb
      unfold sortedW
      rw [List.pairwise_cons]
      refine ⟨fun z hz => ?_, insM_sorted h.2⟩
      rcases mem_insM.1 hz with rfl | hz
      · exact hb
      · exact h.1 z hz
    · rename_i hb
      split
      · exact h0
      · rename_i hne
        have hxy : bef x y = true := by
          rcases bef_total hne with e | e
          · exact absurd e hb
          · exact e
        unfold sortedW
        rw [List.pairwise_cons]
        refine ⟨fun z hz => ?_, h0⟩
        rcases List.mem_cons.1 hz with rfl | hz
        · exact hxy
        · exact bef_trans hxy (h.1 z hz)
theorem insM_len (x : Word) : ∀ l : List Word, (insM x l).length ≤ l.length + 1
  | [] => by simp [insM]
  | y :: l => by
    rw [insM]
    split
    · have := insM_len x l; simp; omega
    · split <;> simp
def insA : List Word → List Word → List Word
  | acc, [] => acc
  | acc, x :: l => insA (insM x acc) l
theorem insA_spec : ∀ (l acc : List Word), sortedW acc → sortedW (insA acc l) ∧ ∀ z, z ∈ insA acc l ↔ z ∈ acc ∨ z ∈ l
  | [], acc, h => ⟨h, fun z => by simp [insA]⟩
  | x :: l, acc, h => by
    obtain ⟨h1, h2⟩ := insA_spec l (insM x acc) (insM_sorted h)
    refine ⟨h1, fun z => ?_⟩
    rw [insA, h2, mem_insM, List.mem_cons]
    constructor
    · rintro ((h | h) | h)
      · exact .inr (.inl h)
      · exact .inl h
      · exact .inr (.inr h)
    · rintro (h | h | h)
      · exact .inl (.inr h)
      · exact .inl (.inl h)
      · exact .inr h
theorem insA_len : ∀ (l acc : List Word), (insA acc l).length ≤ acc.length + l.length
  | [], acc => by simp [insA]
  | x :: l, acc => by
    have := insA_len l (insM x acc)
    have := insM_len x acc
    rw [insA]; simp; omega
theorem compF_spec : ∀ (p : Word) (l : List Word), inOrder (p :: l) → sortedW (p :: compF p l) ∧ ∀ z, z ∈ p :: compF p l ↔ z ∈ p :: l
  | p, [], _ => by simp [compF, sortedW]
  | p, y :: l, h => by
    unfold inOrder at h
    rw [List.pairwise_cons] at h
    rw [compF]
    split
    · rename_i e
      subst e
      obtain ⟨h1, h2⟩ := compF_spec y l h.2
      exact ⟨h1, fun z => by rw [h2]; simp⟩
    · rename_i e
      obtain ⟨h1, h2⟩ := compF_spec y l h.2
      have hpy : bef p y = true := by
        rcases bef_total e with k | k
        · rw [h.1 y (by simp)] at k; cases k
        · exact k
      refine ⟨?_, fun z => ?_⟩
      · have h3 := h1
        unfold sortedW at h1 ⊢
        rw [List.pairwise_cons] at h1 ⊢
        refine ⟨fun z hz => ?_, h3⟩
        rcases List.mem_cons.1 hz with rfl | hz
        · exact hpy
        · exact bef_trans hpy (h1.1 z hz)
      · rw [List.mem_cons, h2, ← List.mem_cons]
theorem uniq_sorted (l : List Word) : sortedW (uniq l) ∧ ∀ z, z ∈ uniq l ↔ z ∈ l := by
  unfold uniq
  have ho := sortW_order l
  have hm : ∀ z, z ∈ sortW l ↔ z ∈ l := fun z => (sortW_perm l).mem_iff
  generalize sortW l = m at ho hm
  cases m with
  | nil => exact ⟨List.Pairwise.nil, fun z => by rw [← hm]; simp [compW]⟩
  | cons x m =>
    obtain ⟨h1, h2⟩ := compF_spec x m ho
    exact ⟨h1, fun z => by rw [← hm]; exact h2 z⟩
end Go.Proofs.Ytkhddecnllcaiaa
end

section
/- Plain: the two searches, the program's and the reference's, find the same words. -/
namespace Go.Proofs.Ytkhddecnllcaiaa
open Go.Abs Go

theorem el_app_left {α : Type} [Inhabited α] (a b : List α) {i : Nat} (h : i < a.length) : el (a ++ b) i = el a i := by
  unfold el; rw [List.getD_eq_getElem?_getD, List.getD_eq_getElem?_getD, List.getElem?_append_left h]
theorem el_app_mid {α : Type} [Inhabited α] (a : List α) (x : α) : el (a ++ [x]) a.length = x := by
  unfold el; simp
theorem el_mapG {α β : Type} [Inhabited α] [Inhabited β] (f : α → β) (l : List α) {k : Nat} (h : k < l.length) : el (l.map f) k = f (el l k) := by
  rw [el_eq _ _ (by simpa using h), el_eq _ _ h]; simp
/-! ### the program's search -/
def nxP (s : List Rule) (v : Word) : List Word := (movesM s v).map (·.word)
/-- What whence and by which step say. -/
structure GrD (s : List Rule) (g : Gr) (ws : List WN) : Prop where
  words : g.ws = ws.map (·.1)
  frm : g.frm.length = ws.length
  stp : g.stp.length = ws.length
  root : 0 < ws.length → el g.frm 0 = -1
  back : ∀ j, 0 < j → j < ws.length → ∃ i : Nat, el g.frm j = (i : Int) ∧ i < j ∧ (el ws j).2 = (el ws i).2 + 1 ∧ (⟨el g.stp j, (el ws j).1⟩ : Move) ∈ movesM s (el ws i).1
theorem addG_F {s : List Rule} {i : Nat} : ∀ {l : List Move} {g : Gr} {ws : List WN}, GrD s g ws → i < ws.length → (∀ m ∈ l, m ∈ movesM s (el ws i).1) →
    match addG i g l, addF ((el ws i).2 + 1) ws (l.map (·.word)) with
    | some g', some ws' => GrD s g' ws'
    | none, none => True
    | _, _ => False
  | [], g, ws, h, _, _ => by simpa [addG, addF] using h
  | m :: l, g, ws, h, hi, hl => by
    rw [addG, List.map_cons, addF, h.words]
    by_cases hm : m.word ∈ ws.map (·.1)
    · rw [if_pos hm, if_pos hm]
      exact addG_F h hi fun x hx => hl x (by simp [hx])
    · rw [if_neg hm, if_neg hm, List.length_map]
      by_cases h3 : ws.length = 300
      · rw [if_pos h3, if_pos h3]; trivial
      · rw [if_neg h3, if_neg h3]
        have e : el (ws ++ [(m.word, (el ws i).2 + 1)]) i = el ws i := el_app_left _ _ hi
        have hn : GrD s ⟨ws.map (·.1) ++ [m.word], g.frm ++ [(i : Int)], g.stp ++ [m.step]⟩ (ws ++ [(m.word, (el ws i).2 + 1)]) := by
          refine ⟨by simp, by simp [h.frm], by simp [h.stp], fun _ => ?_, fun j h0 hj => ?_⟩
          · dsimp only
            rw [el_app_left _ _ (by have := h.frm; omega)]
            exact h.root (by omega)
          · dsimp only
            by_cases hjl : j < ws.length
            · obtain ⟨k, h1, h2, h4, h5⟩ := h.back j h0 hjl
              refine ⟨k, ?_, h2, ?_, ?_⟩
              · rw [el_app_left _ _ (by have := h.frm; omega)]; exact h1
              · rw [el_app_left _ _ hjl, el_app_left _ _ (by omega)]; exact h4
              · rw [el_app_left _ _ hjl, el_app_left _ _ (by omega), el_app_left _ _ (by have := h.stp; omega)]; exact h5
            · have hjl : j = ws.length := by simp at hj; omega
              subst hjl
              refine ⟨i, ?_, hi, ?_, ?_⟩
              · rw [← h.frm, el_app_mid]
              · rw [el_app_mid, e]
              · rw [el_app_mid, e, ← h.stp, el_app_mid]
                exact hl m (by simp)
        have ih := addG_F (i := i) (l := l) hn (by simp; omega) (fun x hx => by rw [e]; exact hl x (by simp [hx]))
        rw [e] at ih
        exact ih
theorem closeG_F {s : List Rule} : ∀ (n i : Nat) {g : Gr} {ws : List WN}, GrD s g ws →
    match closeG s n i g, closeF (nxP s) n i ws with
    | some g', some ws' => GrD s g' ws'
    | none, none => True
    | _, _ => False
  | 0, i, g, ws, h => by simpa [closeG, closeF] using h
  | n + 1, i, g, ws, h => by
    rw [closeG, closeF]
    have hl : g.ws.length = ws.length := by rw [h.words]; simp
    by_cases hi : i < ws.length
    · rw [if_pos (by omega), if_pos hi]
      have ew : el g.ws i = (el ws i).1 := by rw [h.words, el_mapG _ _ hi]
      have ha := addG_F (s := s) (i := i) (l := movesM s (el ws i).1) h hi (fun m hm => hm)
      rw [ew]
      unfold nxP at *
      cases h1 : addG i g (movesM s (el ws i).1) with
      | none =>
        cases h2 : addF ((el ws i).2 + 1) ws ((movesM s (el ws i).1).map (·.word)) with
        | none => trivial
        | some ws' => rw [h1, h2] at ha; exact ha.elim
      | some g' =>
        cases h2 : addF ((el ws i).2 + 1) ws ((movesM s (el ws i).1).map (·.word)) with
        | none => rw [h1, h2] at ha; exact ha.elim
        | some ws' =>
          rw [h1, h2] at ha
          exact closeG_F n (i + 1) ha
    · rw [if_neg (by omega), if_neg hi]
      exact h
theorem reachG_F (s : List Rule) (w : Word) :
    match reachG s w, closeM (nxP s) w with
    | some g', some ws' => GrD s g' ws'
    | none, none => True
    | _, _ => False := by
  refine closeG_F 301 0 ⟨rfl, rfl, rfl, fun _ => rfl, fun j h0 hj => ?_⟩
  simp at hj; omega
/-! ### the reference's search -/
def nxR (s : List Rule) (v : Word) : List Word := insA [] (nxP s v)
theorem mem_nxR {s : List Rule} {v x : Word} : x ∈ nxR s v ↔ x ∈ nxP s v := by
  unfold nxR
  rw [(insA_spec _ [] List.Pairwise.nil).2]
  simp
/-- The place of a word, or -1. -/
def findI (l : List Word) (w : Word) : Int := idxG (fun x => decide (x = w)) 0 l
theorem idxG_lt {α : Type} [Inhabited α] (p : α → Bool) : ∀ (l : List α) (k : Nat), idxG p k l = -1 ∨ ∃ i, i < l.length ∧ idxG p k l = ((k + i : Nat) : Int) ∧ p (el l i) = true
  | [], k => .inl rfl
  | x :: l, k => by
    by_cases h : p x = true
    · exact .inr ⟨0, by simp, by simp [idxG, h], by simpa [el] using h⟩
    · rcases idxG_lt p l (k + 1) with e | ⟨i, h1, h2, h3⟩
      · exact .inl (by simp [idxG, h, e])
      · refine .inr ⟨i + 1, by simp; omega, ?_, by simpa [el] using h3⟩
        rw [idxG, if_neg h, h2]
        omega
theorem findI_mem (l : List Word) (w : Word) : decide (0 ≤ findI l w) = decide (w ∈ l) := by
  unfold findI
  rw [idxG_any, Bool.eq_iff_iff]
  simp
theorem findI_spec {l : List Word} {w : Word} (h : w ∈ l) : ∃ i, i < l.length ∧ findI l w = (i : Int) ∧ el l i = w := by
  rcases idxG_lt (fun x => decide (x = w)) l 0 with e | ⟨i, h1, h2, h3⟩
  · have := findI_mem l w
    unfold findI at this
    rw [e] at this
    simp [h] at this
  · exact ⟨i, h1, by unfold findI; rw [h2]; simp, by simpa using h3⟩
theorem findI_no {l : List Word} {w : Word} (h : w ∉ l) : findI l w = -1 := by
  rcases idxG_lt (fun x => decide (x = w)) l 0 with e | ⟨i, h1, h2, h3⟩
  · exact e
  · simp only [decide_eq_true_eq] at h3
    exact absurd (by rw [← h3]; exact el_mem_of l i h1) h
structure RG where
  ws : List Word
  nx : List (List Int)
  far : List Int
/-- The words to which one leads: their places, and the new ones put at the end. -/
def raddG (d : Int) : List Word → List Int → List Int → List Word → Option (List Word × List Int × List Int)
  | ws, fr, l, [] => some (ws, fr, l)
  | ws, fr, l, v :: m => if findI ws v < 0 then if ws.length = 300 then none else raddG d (ws ++ [v]) (fr ++ [d]) (l ++ [(ws.length : Int)]) m else raddG d ws fr (l ++ [findI ws v]) m
def rcloseG (s : List Rule) : Nat → Nat → RG → Option RG
  | 0, _, g => some g
  | n + 1, i, g => if i < g.ws.length then match raddG (el g.far i + 1) g.ws g.far [] (nxR s (el g.ws i)) with
      | none => none
      | some (ws, fr, l) => rcloseG s n (i + 1) ⟨ws, g.nx ++ [l], fr⟩
    else some g
def rreachG (s : List Rule) (w : Word) : Option RG := rcloseG s 301 0 ⟨[w], [], [0]⟩
/-- A list of places of words. -/
def atsOf (ws : List Word) (l : List Int) (m : List Word) : Prop := l.length = m.length ∧ ∀ q, q < m.length → ∃ k : Nat, el l q = (k : Int) ∧ k < ws.length ∧ el ws k = el m q
theorem atsOf.more {ws : List Word} {l : List Int} {m : List Word} (h : atsOf ws l m) (t : List Word) : atsOf (ws ++ t) l m := by
  refine ⟨h.1, fun q hq => ?_⟩
  obtain ⟨k, h1, h2, h3⟩ := h.2 q hq
  exact ⟨k, h1, by simp; omega, by rw [el_app_left _ _ h2]; exact h3⟩
theorem atsOf.push {ws : List Word} {l : List Int} {m : List Word} (h : atsOf ws l m) {k : Nat} (hk : k < ws.length) : atsOf ws (l ++ [(k : Int)]) (m ++ [el ws k]) := by
  refine ⟨by simp [h.1], fun q hq => ?_⟩
  by_cases hq2 : q < m.length
  · obtain ⟨j, h1, h2, h3⟩ := h.2 q hq2
    exact ⟨j, by rw [el_app_left _ _ (by have := h.1; omega)]; exact h1, h2, by rw [el_app_left _ _ hq2]; exact h3⟩
  · have hq3 : q = m.length := by simp at hq; omega
    subst hq3
    exact ⟨k, by rw [← h.1, el_app_mid], hk, by rw [el_app_mid]⟩
theorem raddG_F {d : Nat} : ∀ {m : List Word} {ws : List WN} {l : List Int} {m0 : List Word}, atsOf (ws.map (·.1)) l m0 →
    match raddG (d : Int) (ws.map (·.1)) (ws.map fun x => (x.2 : Int)) l m, addF d ws m with
    | some r, some ws' => r.1 = ws'.map (·.1) ∧ r.2.1 = ws'.map (fun x => (x.2 : Int)) ∧ (∃ t, ws' = ws ++ t) ∧ atsOf (ws'.map (·.1)) r.2.2 (m0 ++ m)
    | none, none => True
    | _, _ => False
  | [], ws, l, m0, h => by
    rw [raddG, addF]
    exact ⟨rfl, rfl, ⟨[], by simp⟩, by simpa using h⟩
  | v :: m, ws, l, m0, h => by
    rw [raddG, addF]
    by_cases hv : v ∈ ws.map (·.1)
    · obtain ⟨i, h1, h2, h3⟩ := findI_spec hv
      rw [if_pos hv, if_neg (by omega), h2]
      have hp := h.push h1
      rw [h3] at hp
      have ih := raddG_F (d := d) (m := m) hp
      rw [List.append_assoc, List.singleton_append] at ih
      exact ih
    · rw [if_neg hv, if_pos (by rw [findI_no hv]; decide), List.length_map]
      by_cases h3 : ws.length = 300
      · rw [if_pos h3, if_pos h3]; trivial
      · rw [if_neg h3, if_neg h3]
        have hm : atsOf ((ws ++ [(v, d)]).map (·.1)) l m0 := by
          rw [List.map_append]
          exact h.more _
        have hp := hm.push (k := ws.length) (by simp)
        have e : el ((ws ++ [(v, d)]).map (·.1)) ws.length = v := by
          have := el_app_mid (ws.map (·.1)) v
          rw [List.length_map] at this
          simpa using this
        rw [e] at hp
        have ih := raddG_F (d := d) (m := m) hp
        rw [List.append_assoc, List.singleton_append] at ih
        rw [show ws.map (·.1) ++ [v] = (ws ++ [(v, d)]).map (·.1) by simp, show (ws.map fun x => (x.2 : Int)) ++ [(d : Int)] = (ws ++ [(v, d)]).map fun x => (x.2 : Int) by simp]
        revert ih
        cases raddG (d : Int) ((ws ++ [(v, d)]).map (·.1)) ((ws ++ [(v, d)]).map fun x => (x.2 : Int)) (l ++ [(ws.length : Int)]) m with
        | none =>
          cases addF d (ws ++ [(v, d)]) m with
          | none => intro _; trivial
          | some ws' => intro ih; exact ih.elim
        | some r =>
          cases addF d (ws ++ [(v, d)]) m with
          | none => intro ih; exact ih
          | some ws' =>
            rintro ⟨h1, h2, ⟨t, h4⟩, h5⟩
            exact ⟨h1, h2, ⟨(v, d) :: t, by rw [h4]; simp⟩, h5⟩
/-- What the reference's graph is. -/
structure RGD (s : List Rule) (i : Nat) (g : RG) (ws : List WN) : Prop where
  words : g.ws = ws.map (·.1)
  far : g.far = ws.map fun x => (x.2 : Int)
  num : g.nx.length = i
  nx : ∀ j, j < i → atsOf g.ws (el g.nx j) (nxR s (el g.ws j))
theorem rcloseG_F {s : List Rule} : ∀ (n i : Nat) {g : RG} {ws : List WN}, n + i = 301 → ws.length ≤ 300 → i ≤ ws.length → RGD s i g ws →
    match rcloseG s n i g, closeF (nxR s) n i ws with
    | some g', some ws' => RGD s ws'.length g' ws' ∧ ws'.length ≤ 300
    | none, none => True
    | _, _ => False
  | 0, i, g, ws, hn, hw, hi, h => by omega
  | n + 1, i, g, ws, hn, hw, hi, h => by
    rw [rcloseG, closeF]
    have hl : g.ws.length = ws.length := by rw [h.words]; simp
    by_cases hi2 : i < ws.length
    · rw [if_pos (by omega), if_pos hi2]
      have ew : el g.ws i = (el ws i).1 := by rw [h.words, el_mapG _ _ hi2]
      have ef : el g.far i + 1 = (((el ws i).2 + 1 : Nat) : Int) := by rw [h.far, el_mapG _ _ hi2]; omega
      have ha := raddG_F (d := (el ws i).2 + 1) (m := nxR s (el ws i).1) (ws := ws) (l := []) (m0 := []) ⟨rfl, fun q hq => by simp at hq⟩
      rw [ew, ef, h.words, h.far]
      cases h1 : raddG (((el ws i).2 + 1 : Nat) : Int) (ws.map (·.1)) (ws.map fun x => (x.2 : Int)) [] (nxR s (el ws i).1) with
      | none =>
        cases h2 : addF ((el ws i).2 + 1) ws (nxR s (el ws i).1) with
        | none => trivial
        | some ws' => rw [h1, h2] at ha; exact ha.elim
      | some r =>
        cases h2 : addF ((el ws i).2 + 1) ws (nxR s (el ws i).1) with
        | none => rw [h1, h2] at ha; exact ha.elim
        | some ws' =>
          rw [h1, h2] at ha
          obtain ⟨a1, a2, ⟨t, a3⟩, a4⟩ := ha
          obtain ⟨rw1, rw2, rw3⟩ := r
          dsimp only at a1 a2 a4 ⊢
          have hlen : ws'.length ≤ 300 := by
            have key : ∀ (m : List Word) (d : Nat) (ws ws' : List WN), ws.length ≤ 300 → addF d ws m = some ws' → ws'.length ≤ 300 := by
              intro m
              induction m with
              | nil => intro d ws ws' hw h; simp only [addF, Option.some.injEq] at h; subst h; exact hw
              | cons v m ih =>
                intro d ws ws' hw h
                rw [addF] at h
                split at h
                · exact ih d ws ws' hw h
                · split at h
                  · cases h
                  · rename_i h300
                    exact ih d _ ws' (by simp; omega) h
            exact key _ _ _ _ hw h2
          refine rcloseG_F n (i + 1) (by omega) hlen (by rw [a3]; simp; omega) ⟨a1, a2, by simp [h.num], fun j hj => ?_⟩
          dsimp only
          by_cases hj2 : j < i
          · rw [el_app_left _ _ (by have := h.num; omega)]
            have := (h.nx j hj2).more (t.map (·.1))
            have e1 : g.ws ++ t.map (·.1) = rw1 := by rw [a1, a3, h.words]; simp
            rw [e1] at this
            have e2 : el rw1 j = el g.ws j := by rw [← e1, el_app_left _ _ (by omega)]
            rw [e2]; exact this
          · have hj3 : j = i := by omega
            subst hj3
            have e1 : el (g.nx ++ [rw3]) j = rw3 := by
              have := el_app_mid g.nx rw3
              rw [h.num] at this; exact this
            have e2 : el rw1 j = (el ws j).1 := by rw [a1, a3, el_mapG _ _ (by simp; omega), el_app_left _ _ hi2]
            rw [e1, e2, a1]
            simpa using a4
    · rw [if_neg (by omega), if_neg hi2]
      have : i = ws.length := by omega
      subst this
      exact ⟨h, hw⟩
theorem rreachG_F (s : List Rule) (w : Word) :
    match rreachG s w, closeM (nxR s) w with
    | some g', some ws' => RGD s ws'.length g' ws' ∧ ws'.length ≤ 300
    | none, none => True
    | _, _ => False := by
  refine rcloseG_F 301 0 (by omega) (by simp) (by simp) ⟨rfl, rfl, rfl, fun j hj => by omega⟩
/-- Both searches, side by side. -/
theorem graphs_same (s : List Rule) (w : Word) :
    match reachG s w, rreachG s w with
    | some g, some r => ∃ ws rs : List WN, GrD s g ws ∧ RGD s rs.length r rs ∧ Closed (nxP s) w ws ∧ Closed (nxR s) w rs ∧ ∀ y, y ∈ ws ↔ y ∈ rs
    | none, none => True
    | _, _ => False := by
  have h1 := reachG_F s w
  have h2 := rreachG_F s w
  have h3 := closeM_same (nx := nxP s) (nx' := nxR s) (fun v x => mem_nxR.symm) w
  cases c1 : closeM (nxP s) w with
  | none =>
    cases c2 : closeM (nxR s) w with
    | none =>
      rw [c1] at h1; rw [c2] at h2
      cases g1 : reachG s w with
      | none =>
        cases g2 : rreachG s w with
        | none => trivial
        | some r => rw [g2] at h2; exact h2.elim
      | some g => rw [g1] at h1; exact h1.elim
    | some rs => rw [c1, c2] at h3; exact h3.elim
  | some ws =>
    cases c2 : closeM (nxR s) w with
    | none => rw [c1, c2] at h3; exact h3.elim
    | some rs =>
      rw [c1, c2] at h3
      rw [c1] at h1; rw [c2] at h2
      cases g1 : reachG s w with
      | none => rw [g1] at h1; exact h1.elim
      | some g =>
        cases g2 : rreachG s w with
        | none => rw [g2] at h2; exact h2.elim
        | some r =>
          rw [g1] at h1; rw [g2] at h2
          exact ⟨ws, rs, h1, h2.1, closeM_some c1, closeM_some c2, h3⟩
end Go.Proofs.Ytkhddecnllcaiaa
end

section
/- Plain: paths, and the shortest one that a search gives. -/
namespace Go.Proofs.Ytkhddecnllcaiaa
open Go.Abs Go

/-- The steps back from the i-th word to the first one. -/
def backM (g : Gr) : Nat → Nat → List Step
  | 0, _ => []
  | n + 1, i => if el g.frm i < 0 then [] else el g.stp i :: backM g n (el g.frm i).toNat
end Go.Proofs.Ytkhddecnllcaiaa
end

section
/- Contracts: paths; the statements FeedPaths and OrderPaths. -/
namespace Go.Proofs.Ytkhddecnllcaiaa
open Go.Abs Go
set_option maxRecDepth 20000
set_option maxHeartbeats 2000000
attribute [local irreducible] PreK CondK CallK CallG CallX LoopK
attribute [local simp] avsEq avEq akind teq vkind vEq

end Go.Proofs.Ytkhddecnllcaiaa
end

section
/- Contracts: words put in their places; the reference's next words; parts of lists; the statement FeedNexts. -/
namespace Go.Proofs.Ytkhddecnllcaiaa
open Go.Abs Go
set_option maxRecDepth 20000
set_option maxHeartbeats 2000000
attribute [local irreducible] PreK CondK CallK CallG CallX LoopK
attribute [local simp] avsEq avEq akind teq vkind vEq

theorem before1_c (a b : List Int) (ha : a.length ≤ 1000) : CallP Try.prog 142 [ints a, ints b] (bv (bef a b)) := by
  refine C142 (by simp) ?_
  generalize hR : bef a b = R
  simp [A142]
  refine LoopK.by (fun i : Nat => ⟨[(5, iv i), (0, ints a), (1, ints b)], []⟩) (fun i => a.length - i) (fun i => i ≤ a.length ∧ i ≤ b.length ∧ bef (a.drop i) (b.drop i) = R) 0 (by simpa using hR) (by simp) ?_
  intro i Q' ⟨hi, hj, hc⟩ hq he hr
  by_cases h1 : i < a.length
  · by_cases h2 : i < b.length
    · rw [drop_cons a i h1, drop_cons b i h2, bef] at hc
      try simp [h1, h2]
      repeat' (first
        | ((with_reducible refine PreK.intro ?_ ?_); (next => (first | omega | (intros; first | omega | (refine ⟨by omega, ?_⟩; repeat (first | assumption | constructor)) | assumption))); intro _; try simp [h1, h2])
        | fail)
      refine CondK.intro (fun h3 => ?_) (fun h3 => ?_)
      · try simp [h1, h2]
        repeat' (first
          | ((with_reducible refine PreK.intro ?_ ?_); (next => (first | omega | (intros; first | omega | (refine ⟨by omega, ?_⟩; repeat (first | assumption | constructor)) | assumption))); intro _; try simp [h1, h2])
          | fail)
        refine CondK.intro (fun h4 => ?_) (fun h4 => ?_)
        · simp at h4
          rw [if_neg h4] at hc
          try simp [h1, h2]
          repeat' (first
            | ((with_reducible refine PreK.intro ?_ ?_); (next => (first | omega | (intros; first | omega | (refine ⟨by omega, ?_⟩; repeat (first | assumption | constructor)) | assumption))); intro _; try simp [h1, h2])
            | fail)
          apply hr
          simp [← hc]
        · simp at h4
          rw [if_pos h4] at hc
          try simp 
          repeat' (first
            | ((with_reducible refine PreK.intro ?_ ?_); (next => (first | omega | (intros; first | omega | (refine ⟨by omega, ?_⟩; repeat (first | assumption | constructor)) | assumption))); intro _; try simp )
            | fail)
          exact hq (i + 1) _ ⟨by omega, by omega, hc⟩ (by omega) (by simp)
      · simp at h3
    · have hb : b.drop i = [] := List.drop_eq_nil_of_le (by omega)
      rw [hb] at hc
      have hf : bef (a.drop i) [] = false := by cases a.drop i <;> rfl
      rw [hf] at hc
      try simp [h1, h2]
      repeat' (first
        | ((with_reducible refine PreK.intro ?_ ?_); (next => (first | omega | (intros; first | omega | (refine ⟨by omega, ?_⟩; repeat (first | assumption | constructor)) | assumption))); intro _; try simp [h1, h2])
        | fail)
      refine CondK.intro (fun h3 => ?_) (fun h3 => ?_)
      · simp at h3
      · try simp 
        repeat' (first
          | ((with_reducible refine PreK.intro ?_ ?_); (next => (first | omega | (intros; first | omega | (refine ⟨by omega, ?_⟩; repeat (first | assumption | constructor)) | assumption))); intro _; try simp )
          | fail)
        apply he
        simp [← hc]; omega
  · have h0 : i = a.length := by omega
    subst h0
    rw [List.drop_eq_nil_of_le (Nat.le_refl _)] at hc
    try simp 
    repeat' (first
      | ((with_reducible refine PreK.intro ?_ ?_); (next => (first | omega | (intros; first | omega | (refine ⟨by omega, ?_⟩; repeat (first | assumption | constructor)) | assumption))); intro _; try simp )
      | fail)
    refine CondK.intro (fun h3 => ?_) (fun h3 => ?_)
    · simp at h3
    · try simp 
      repeat' (first
        | ((with_reducible refine PreK.intro ?_ ?_); (next => (first | omega | (intros; first | omega | (refine ⟨by omega, ?_⟩; repeat (first | assumption | constructor)) | assumption))); intro _; try simp )
        | fail)
      apply he
      by_cases h2 : a.length < b.length
      · rw [drop_cons b _ h2, bef] at hc
        simp [← hc, h2]
      · rw [List.drop_eq_nil_of_le (by omega), bef] at hc
        simp [← hc, h2]
theorem insert_c (l : List Word) (w : Word) (hl : l.length ≤ 1000) (hs : ∀ x ∈ l, x.length ≤ 1000) (hw : w.length ≤ 1000) : CallP Try.prog 135 [wordsV l, ints w] (wordsV (insM w l)) := by
  refine C135 (by simp) ?_
  generalize hR : insM w l = R
  simp [A135]
  refine LoopK.by (fun i : Nat => ⟨[(5, iv i), (0, wordsV l), (1, ints w)], []⟩) (fun i => l.length - i) (fun i => i ≤ l.length ∧ l.take i ++ insM w (l.drop i) = R) 0 (by simpa using hR) (by simp) ?_
  intro i Q' ⟨hi, hc⟩ hq he hr
  by_cases h1 : i < l.length
  · have hm := el_mem_of l i h1
    rw [drop_cons l i h1, insM] at hc
    try simp [h1]
    repeat' (first
      | ((with_reducible refine PreK.intro ?_ ?_); (next => (first | omega | (intros; first | omega | (refine ⟨by omega, ?_⟩; repeat (first | assumption | constructor)) | assumption))); intro _; try simp [h1])
      | fail)
    refine CallG.intro (r := bv (bef (el l i) w)) (fun _ => by simpa using before1_c (el l i) w (hs _ hm)) (by simp) (by simp) ?_
    try simp 
    cases hb : bef (el l i) w
    · rw [hb] at hc
      simp only [Bool.false_eq_true, if_false] at hc
      refine CondK.intro (fun h2 => ?_) (fun h2 => ?_)
      · simp at h2
      · try simp 
        repeat' (first
          | ((with_reducible refine PreK.intro ?_ ?_); (next => (first | omega | (intros; first | omega | (refine ⟨by omega, ?_⟩; repeat (first | assumption | constructor)) | assumption))); intro _; try simp )
          | fail)
        apply he
        try simp [h1]
        repeat' (first
          | ((with_reducible refine PreK.intro ?_ ?_); (next => (first | omega | (intros; first | omega | (refine ⟨by omega, ?_⟩; repeat (first | assumption | constructor)) | assumption))); intro _; try simp [h1])
          | fail)
        refine CallG.intro (r := bv (decide (el l i = w))) (fun _ => by simpa using same1_c (el l i) w (big_of (hs _ hm))) (by simp) (by simp) ?_
        try simp 
        refine CondK.intro (fun h3 => ?_) (fun h3 => ?_)
        · simp at h3
          rw [if_pos h3, ← drop_cons l i h1, List.take_append_drop] at hc
          try simp 
          repeat' (first
            | ((with_reducible refine PreK.intro ?_ ?_); (next => (first | omega | (intros; first | omega | (refine ⟨by omega, ?_⟩; repeat (first | assumption | constructor)) | assumption))); intro _; try simp )
            | fail)
          simp [← hc]
        · simp at h3
          rw [if_neg h3, ← drop_cons l i h1] at hc
          have hm2 : min i l.length = i := by omega
          have t1 : List.take (i + 1) (List.take i (l.map ints) ++ [ints w]) = List.take i (l.map ints) ++ [ints w] := List.take_of_length_le (by simp; omega)
          have t2 : List.take (i + 1 + (l.length - i)) (List.take i (l.map ints) ++ ints w :: List.drop i (l.map ints)) = List.take i (l.map ints) ++ ints w :: List.drop i (l.map ints) := List.take_of_length_le (by simp; omega)
          have t0 : List.take i (List.take i (l.map ints)) = List.take i (l.map ints) := by rw [List.take_take, Nat.min_self]
          simp only [ints] at t0 t1 t2
          try simp [h1]
          repeat' (first
            | ((with_reducible refine PreK.intro ?_ ?_); (next => (first | omega | (intros; first | omega | (refine ⟨by omega, ?_⟩; repeat (first | assumption | constructor)) | assumption))); intro _; try simp [h1])
            | fail)
          simp [← hc, hm2, t0, t1, t2]
    · rw [hb] at hc
      simp only [if_true] at hc
      refine CondK.intro (fun h2 => ?_) (fun h2 => ?_)
      · try simp 
        repeat' (first
          | ((with_reducible refine PreK.intro ?_ ?_); (next => (first | omega | (intros; first | omega | (refine ⟨by omega, ?_⟩; repeat (first | assumption | constructor)) | assumption))); intro _; try simp )
          | fail)
        refine hq (i + 1) _ ⟨by omega, ?_⟩ (by omega) (by simp)
        rw [take_succ l i h1, List.append_assoc]
        exact hc
      · simp at h2
  · have h0 : i = l.length := by omega
    subst h0
    rw [List.drop_eq_nil_of_le (Nat.le_refl _)] at hc
    simp only [List.take_length, insM] at hc
    try simp 
    repeat' (first
      | ((with_reducible refine PreK.intro ?_ ?_); (next => (first | omega | (intros; first | omega | (refine ⟨by omega, ?_⟩; repeat (first | assumption | constructor)) | assumption))); intro _; try simp )
      | fail)
    refine CallG.intro (r := bv true) (fun hh => by cases hh) (by simp) (by simp) ?_
    try simp 
    refine CondK.intro (fun h3 => ?_) (fun h3 => ?_)
    · simp at h3
    · try simp 
      repeat' (first
        | ((with_reducible refine PreK.intro ?_ ?_); (next => (first | omega | (intros; first | omega | (refine ⟨by omega, ?_⟩; repeat (first | assumption | constructor)) | assumption))); intro _; try simp )
        | fail)
      apply he
      try simp 
      repeat' (first
        | ((with_reducible refine PreK.intro ?_ ?_); (next => (first | omega | (intros; first | omega | (refine ⟨by omega, ?_⟩; repeat (first | assumption | constructor)) | assumption))); intro _; try simp )
        | fail)
      refine CallG.intro (r := bv true) (fun hh => by cases hh) (by simp) (by simp) ?_
      try simp 
      refine CondK.intro (fun h4 => ?_) (fun h4 => ?_)
      · simp at h4
      · try simp 
        repeat' (first
          | ((with_reducible refine PreK.intro ?_ ?_); (next => (first | omega | (intros; first | omega | (refine ⟨by omega, ?_⟩; repeat (first | assumption | constructor)) | assumption))); intro _; try simp )
          | fail)
        simp [← hc, take_map_one]
theorem insM_words (w : Word) (n : Nat) (hw : w.length ≤ n) {l : List Word} (hs : ∀ x ∈ l, x.length ≤ n) : ∀ x ∈ insM w l, x.length ≤ n := by
  intro x hx
  rcases mem_insM.1 hx with rfl | hx
  · exact hw
  · exact hs x hx
def nxtR (s : List Rule) (w : Word) : List Word := insA [] ((movesM s w).map (·.word))
theorem rnext_c (s : List Rule) (w : List Int) (h : Sys.small s) (hs : sysErr s = 0) (hw : wordErr w = 0) : CallP Try.prog 119 [rulesV s, ints w] (wordsV (nxtR s w)) := by
  refine C119 (by simp) ?_
  have hst := rsteps_c s w h (sysErr_zero hs).1 (wordErr_zero hw).1
  have hmr := fun m hm => @moves_right s w hs hw m hm
  have hml := movesM_len hs hw
  unfold nxtR
  generalize hS : (movesM s w).map (·.step) = S at hst
  have hws : ∀ x ∈ (movesM s w).map (·.word), x.length ≤ 8 := by
    intro x hx
    obtain ⟨m, hm, rfl⟩ := List.mem_map.1 hx
    exact (wordErr_zero (hmr m hm)).1
  have hwl : ((movesM s w).map (·.word)).length ≤ 54 := by simpa using hml
  generalize (movesM s w).map (·.word) = ws at hst hws hwl
  generalize hR : insA [] ws = R
  simp [A119]
  try simp 
  repeat' (first
    | (refine CallX.pure (hst) (by simp) (by simp) ?_; try simp )
    | (refine CallK.intro (hst) (by simp) (by simp) ?_; try simp )
    | (refine CallG.intro (fun _ => hst) (by simp) (by simp) ?_; try simp )
    | ((with_reducible refine PreK.intro ?_ ?_); (next => (first | omega | (intros; first | omega | (refine ⟨by omega, ?_⟩; repeat (first | assumption | constructor)) | assumption))); intro _; try simp )
    | fail)
  refine LoopK.frz 7 (b := ⟨1, [], 1, false⟩) (by simp) (by simp) ?_
  refine LoopK.by (ι := Nat × List Word) (fun x => ⟨[(8, iv x.1), (6, wordsV ws), (7, wordsV x.2)], []⟩) (fun x => ws.length - x.1) (fun x => x.1 ≤ ws.length ∧ x.2.length ≤ x.1 ∧ (∀ y ∈ x.2, y.length ≤ 8) ∧ insA x.2 (ws.drop x.1) = R) (0, []) (by simpa using hR) (by simp) ?_
  intro ⟨i, acc⟩ Q' ⟨hi, ha, hy, hc⟩ hq he hr
  dsimp only at hi ha hy hc
  try simp 
  refine CondK.intro (fun h1 => ?_) (fun h1 => ?_)
  · simp at h1
    have h8 := hws _ (el_mem_of ws i h1)
    rw [drop_cons ws i h1, insA] at hc
    try simp [h1]
    repeat' (first
      | (refine CallX.pure (insert_c acc (el ws i) (by omega) (fun x hx => Nat.le_trans (hy x hx) (by omega)) (by omega)) (by simp) (by simp) ?_; try simp [h1])
      | (refine CallK.intro (insert_c acc (el ws i) (by omega) (fun x hx => Nat.le_trans (hy x hx) (by omega)) (by omega)) (by simp) (by simp) ?_; try simp [h1])
      | (refine CallG.intro (fun _ => insert_c acc (el ws i) (by omega) (fun x hx => Nat.le_trans (hy x hx) (by omega)) (by omega)) (by simp) (by simp) ?_; try simp [h1])
      | ((with_reducible refine PreK.intro ?_ ?_); (next => (first | omega | (intros; first | omega | (refine ⟨by omega, ?_⟩; repeat (first | assumption | constructor)) | assumption))); intro _; try simp [h1])
      | fail)
    refine hq (i + 1, insM (el ws i) acc) _ ⟨by dsimp only; omega, ?_, insM_words _ 8 h8 hy, hc⟩ (by dsimp only; omega) (by simp)
    have := insM_len (el ws i) acc
    dsimp only; omega
  · simp at h1
    rw [List.drop_eq_nil_of_le (by omega), insA] at hc
    try simp 
    apply he
    try simp 
    repeat' (first
      | ((with_reducible refine PreK.intro ?_ ?_); (next => (first | omega | (intros; first | omega | (refine ⟨by omega, ?_⟩; repeat (first | assumption | constructor)) | assumption))); intro _; try simp )
      | fail)
    simp [← hc]
end Go.Proofs.Ytkhddecnllcaiaa
end
