/- Part 6 of the proof: the value layer and the contracts of the functions that the statement reaches; proved without conditions beyond those each theorem states. -/
import Derived.Test.YtphkchjhghdhiaaGreatProg
import Derived.Tactics
import Derived.Tactics2
import Derived.WalkKit
import Derived.Lib.Walk
import Derived.Lib.AppendZeros
import Derived.Lib.Overlaps
import Derived.Laws.Externs
import Derived.Laws.IdiomCopy
import Derived.Shelf.RegionOpenPlain
import Derived.Shelf.Spec.SlicesInsert
import Derived.Test.YtphkchjhghdhiaaGreatV4
import Derived.Test.YtphkchjhghdhiaaGreatV5
set_option linter.unusedSimpArgs false
set_option linter.unusedVariables false

section
/- The table of types of the cut, and that it is right. (written by types.py) -/
set_option maxRecDepth 8000
namespace Go.Proofs.YtphkchjhghdhiaaGreat
open Go.Abs

def rows : List (Nat × TI) := [
  (2, ⟨1, 8, .int .i64, .raw (.int .i64 0), false⟩),
  (3, ⟨1, 8, .int .i64, .raw (.int .i64 0), false⟩),
  (4, ⟨1, 1, .bool, .raw (.bool false), false⟩),
  (5, ⟨1, 1, .int .u8, .raw (.int .u8 0), false⟩),
  (9, ⟨1, 16, .str, .raw (.string ByteArray.empty), false⟩),
  (12, ⟨1, 8, .int .u64, .raw (.int .u64 0), false⟩),
  (13, ⟨2, 24, .struct [(0, 1, 9), (1, 1, 12)], .agg [.raw (.string ByteArray.empty), .raw (.int .u64 0)], false⟩),
  (21, ⟨1, 4, .int .i32, .raw (.int .i32 0), false⟩),
  (22, ⟨1, 24, .slice 32, .seq 1 [] true, false⟩),
  (26, ⟨1, 8, .int .i64, .raw (.int .i64 0), false⟩),
  (32, ⟨1, 24, .slice 3, .raw (.slice none 0 0), false⟩),
  (56, ⟨2, 48, .struct [(0, 1, 32), (1, 1, 32)], .agg [.seq 1 [] true, .seq 1 [] true], false⟩),
  (57, ⟨2, 48, .struct [(0, 1, 32), (1, 1, 32)], .agg [.seq 1 [] true, .seq 1 [] true], false⟩),
  (59, ⟨1, 24, .slice 62, .seq 2 [] true, false⟩),
  (61, ⟨2, 16, .struct [(0, 1, 3), (1, 1, 3)], .agg [.raw (.int .i64 0), .raw (.int .i64 0)], true⟩),
  (62, ⟨2, 16, .struct [(0, 1, 3), (1, 1, 3)], .agg [.raw (.int .i64 0), .raw (.int .i64 0)], true⟩),
  (71, ⟨1, 8, .int .u64, .raw (.int .u64 0), false⟩),
  (72, ⟨1, 8, .flat, .raw (.pointer none), false⟩),
  (73, ⟨1, 24, .slice 74, .seq 2 [] true, false⟩),
  (74, ⟨2, 16, .struct [(0, 1, 3), (1, 1, 3)], .agg [.raw (.int .i64 0), .raw (.int .i64 0)], true⟩),
  (81, ⟨1, 8, .int .i64, .raw (.int .i64 0), false⟩),
  (90, ⟨1, 4, .int .u32, .raw (.int .u32 0), false⟩),
  (92, ⟨1, 8, .int .u64, .raw (.int .u64 0), false⟩),
  (103, ⟨1, 8, .int .u64, .raw (.int .u64 0), false⟩),
  (107, ⟨1, 8, .flat, .raw (.pointer none), false⟩),
  (120, ⟨1, 8, .flat, .raw (.pointer none), false⟩),
  (137, ⟨1, 8, .flat, .raw (.pointer none), false⟩)]
def T : TT := findT rows
theorem T_2 : T 2 = some ⟨1, 8, .int .i64, .raw (.int .i64 0), false⟩ := by kernel_rfl
theorem T_3 : T 3 = some ⟨1, 8, .int .i64, .raw (.int .i64 0), false⟩ := by kernel_rfl
theorem T_4 : T 4 = some ⟨1, 1, .bool, .raw (.bool false), false⟩ := by kernel_rfl
theorem T_5 : T 5 = some ⟨1, 1, .int .u8, .raw (.int .u8 0), false⟩ := by kernel_rfl
theorem T_22 : T 22 = some ⟨1, 24, .slice 32, .seq 1 [] true, false⟩ := by kernel_rfl
theorem T_26 : T 26 = some ⟨1, 8, .int .i64, .raw (.int .i64 0), false⟩ := by kernel_rfl
theorem T_32 : T 32 = some ⟨1, 24, .slice 3, .raw (.slice none 0 0), false⟩ := by kernel_rfl
theorem T_56 : T 56 = some ⟨2, 48, .struct [(0, 1, 32), (1, 1, 32)], .agg [.seq 1 [] true, .seq 1 [] true], false⟩ := by kernel_rfl
theorem T_57 : T 57 = some ⟨2, 48, .struct [(0, 1, 32), (1, 1, 32)], .agg [.seq 1 [] true, .seq 1 [] true], false⟩ := by kernel_rfl
theorem T_59 : T 59 = some ⟨1, 24, .slice 62, .seq 2 [] true, false⟩ := by kernel_rfl
theorem T_61 : T 61 = some ⟨2, 16, .struct [(0, 1, 3), (1, 1, 3)], .agg [.raw (.int .i64 0), .raw (.int .i64 0)], true⟩ := by kernel_rfl
theorem T_62 : T 62 = some ⟨2, 16, .struct [(0, 1, 3), (1, 1, 3)], .agg [.raw (.int .i64 0), .raw (.int .i64 0)], true⟩ := by kernel_rfl
theorem T_71 : T 71 = some ⟨1, 8, .int .u64, .raw (.int .u64 0), false⟩ := by kernel_rfl
theorem T_73 : T 73 = some ⟨1, 24, .slice 74, .seq 2 [] true, false⟩ := by kernel_rfl
theorem T_74 : T 74 = some ⟨2, 16, .struct [(0, 1, 3), (1, 1, 3)], .agg [.raw (.int .i64 0), .raw (.int .i64 0)], true⟩ := by kernel_rfl
theorem tokRows : (rows.all fun r => rowOK Tryz.prog r.1 r.2) = true := by kernel_rfl
theorem mixed : Tryz.prog.follows .mixedOrders = true := by kernel_rfl
theorem eqRows : ∀ r ∈ rows.filter fun r => r.2.eq, EqR Tryz.prog r.1 r.2.zero := by
  intro r hr
  have he : rows.filter (fun r => r.2.eq) = [(61, ⟨2, 16, .struct [(0, 1, 3), (1, 1, 3)], .agg [.raw (.int .i64 0), .raw (.int .i64 0)], true⟩), (62, ⟨2, 16, .struct [(0, 1, 3), (1, 1, 3)], .agg [.raw (.int .i64 0), .raw (.int .i64 0)], true⟩), (74, ⟨2, 16, .struct [(0, 1, 3), (1, 1, 3)], .agg [.raw (.int .i64 0), .raw (.int .i64 0)], true⟩)] := rfl
  rw [he] at hr
  simp only [List.mem_cons, List.not_mem_nil, or_false] at hr
  rcases hr with rfl | rfl | rfl
  · exact eqR_struct Tryz.underlying61 Tryz.stoodInHeld61 Tryz.eqGuardType61 (by kernel_rfl)
  · exact eqR_struct Tryz.underlying62 Tryz.stoodInHeld62 Tryz.eqGuardType62 (by kernel_rfl)
  · exact eqR_struct Tryz.underlying74 Tryz.stoodInHeld74 Tryz.eqGuardType74 (by kernel_rfl)
theorem tok : TOK Tryz.prog T := tok_of rows tokRows fun r hr he => eqRows r (List.mem_filter.2 ⟨hr, he⟩)
attribute [irreducible] T
end Go.Proofs.YtphkchjhghdhiaaGreat
end

section
/- The values of the program: numbers, words, rules, steps, choices. -/
namespace Go.Proofs.YtphkchjhghdhiaaGreat
open Go.Abs Go

@[simp] def iv (n : Int) : AV := .raw (.int .i64 n)
@[simp] def bv (b : Bool) : AV := .raw (.bool b)
@[simp] def ints (l : List Int) : AV := .seq 1 (l.map iv) false
structure Rule where
  frm : Int
  to : List Int
  left : List Int
  right : List Int
deriving DecidableEq
instance : Inhabited Rule := ⟨⟨0, [], [], []⟩⟩
@[simp] def ruleV (r : Rule) : AV := .agg [iv r.frm, ints r.to, ints r.left, ints r.right]
@[simp] def rulesV (s : List Rule) : AV := .seq 4 (s.map ruleV) false
structure Step where
  rule : Int
  place : Int
deriving DecidableEq
instance : Inhabited Step := ⟨⟨0, 0⟩⟩
@[simp] def stepV (x : Step) : AV := .agg [iv x.rule, iv x.place]
@[simp] def stepsV (l : List Step) : AV := .seq 2 (l.map stepV) false
structure Choice where
  rule : Int
  place : Int
  ground : Int
deriving DecidableEq
instance : Inhabited Choice := ⟨⟨0, 0, 0⟩⟩
@[simp] def choiceV (x : Choice) : AV := .agg [iv x.rule, iv x.place, iv x.ground]
@[simp] def choicesV (l : List Choice) : AV := .seq 3 (l.map choiceV) false

@[simp] theorem nth_iv (l : List Int) (k : Nat) (h : k < l.length) : nth (l.map iv) k = iv (el l k) := nth_map iv l k h
@[simp] theorem nth_ints (l : List (List Int)) (k : Nat) (h : k < l.length) : nth (l.map ints) k = ints (el l k) := nth_map ints l k h
@[simp] theorem nth_rule (l : List Rule) (k : Nat) (h : k < l.length) : nth (l.map ruleV) k = ruleV (el l k) := nth_map ruleV l k h
@[simp] theorem nth_step (l : List Step) (k : Nat) (h : k < l.length) : nth (l.map stepV) k = stepV (el l k) := nth_map stepV l k h
@[simp] theorem nth_choice (l : List Choice) (k : Nat) (h : k < l.length) : nth (l.map choiceV) k = choiceV (el l k) := nth_map choiceV l k h

@[simp] theorem refsL_bv : ∀ l : List Bool, AV.refsL (l.map bv) = []
  | [] => rfl
  | b :: l => by simp [refsL_bv l]
@[simp] theorem snapL_bv (m : List (Nat × Option Box)) : ∀ l : List Bool, snapL m (l.map bv) = l.map bv
  | [] => rfl
  | b :: l => by simp [snapL_bv m l]
@[simp] theorem snapOKL_bv (m : List (Nat × Option Box)) : ∀ l : List Bool, snapOKL m (l.map bv)
  | [] => trivial
  | b :: l => ⟨trivial, snapOKL_bv m l⟩
theorem nth_ge {α : Type} (f : α → AV) (l : List α) {k : Nat} (h : l.length ≤ k) : nth (l.map f) k = .junk := by
  have : ¬ k < (l.map f).length := by simpa using h
  simp [nth, List.getD_eq_getElem?_getD, List.getElem?_eq_none (Nat.le_of_not_lt this)]
@[simp] theorem nth_nil (k : Nat) : nth [] k = .junk := rfl
@[simp] theorem nth_len {α : Type} (f : α → AV) (l : List α) : nth (l.map f) l.length = .junk := by simp [nth, List.getD_eq_getElem?_getD]

attribute [simp] bad T_2 T_3 T_4 T_5 T_32 T_26 T_22
end Go.Proofs.YtphkchjhghdhiaaGreat
end

section
/- PURSE -/
/- Contract: slices.Replace of one element by two, natively: it moves cells. -/
namespace Go.Proofs.YtphkchjhghdhiaaGreat
open Go.Abs Go Go.Lib

theorem und_tt : Tryz.prog.underlying 22 = some (.slice 32) := by
  obtain ⟨d, hd, hk⟩ := (tok 22 _ T_22).desc
  simp only [TK.desc] at hk
  subst hk
  exact hd
theorem und_int : Tryz.prog.underlying 3 = some (.int .i64) := by
  obtain ⟨d, hd, hk⟩ := (tok 3 _ T_3).desc
  simp only [TK.desc] at hk
  subst hk
  exact hd
set_option maxHeartbeats 4000000 in
set_option maxRecDepth 100000 in
theorem replace_end (w W1 : World) (g base cap k : Nat) (h hb hcap : Nat) (q bq cq : Nat) (hkc : k + 1 ≤ cap) (hbig : k + 2 ≤ 1001)
    (hrun : ∀ ty, (Builtin.append_ #[22, 22] ty #[.slice (some ⟨g, base, none⟩) k cap, .slice (some ⟨h, hb, none⟩) 2 hcap]).run Tryz.prog w = .ok (.slice (some ⟨q, bq, none⟩) (k + 2) cq) W1) :
    Calls Tryz.prog 18 #[.slice (some ⟨g, base, none⟩) (k + 1) cap, .int .i64 (k : Int), .int .i64 ((k : Int) + 1), .slice (some ⟨h, hb, none⟩) 2 hcap] w fun e w' =>
      e = .returned (.slice (some ⟨q, bq, none⟩) (k + 2) cq) ∧ w' = W1 := by
  have hne : ¬ ((k : Int) = (k : Int) + 1) := by omega
  have hck : ¬ (cap = k) := by omega
  have hle : (k : Int) + 1 ≤ cap := by omega
  have hle2 : (k : Int) ≤ cap := by omega
  have hlt : ¬ (k + 2 < k + 1) := by omega
  go_enter Tryz.func18, Tryz.ntmps18
  go_wp2_with (at_builtin; refine Lib.wpList_append_run _ rfl _ _ _ _ rfl _ _ rfl rfl _ _ (hrun _) ?_)
  go_ret
  exact ⟨rfl, rfl⟩
set_option maxHeartbeats 4000000 in
set_option maxRecDepth 100000 in
theorem replace_mid_room (w : World) (g base cap k N : Nat) (c : Array Value) (el : TypeId) (h hb hcap : Nat) (d : Array Value) (el' : TypeId) (hgh : g ≠ h) (hg : w.heap[g]? = some (.cells c el (0, 0))) (hh : w.heap[h]? = some (.cells d el' (0, 0)))
    (hf : base + cap = c.size) (hf' : hb + hcap = d.size) (h2 : 2 ≤ hcap) (h1 : ∀ j, j < d.size → (d.getD j undef).oneCell' = true) (h1c : ∀ j, j < c.size → (c.getD j undef).oneCell' = true) (hN : 1 ≤ N) (hroom : k + 2 + N ≤ cap) (hbig : k + 2 + N ≤ 1001) :
    Calls Tryz.prog 18 #[.slice (some ⟨g, base, none⟩) (k + 1 + N) cap, .int .i64 (k : Int), .int .i64 ((k : Int) + 1), .slice (some ⟨h, hb, none⟩) 2 hcap] w fun e w' =>
      e = .returned (.slice (some ⟨g, base, none⟩) (k + 2 + N) cap) ∧ ∃ w1 : World, ((w1.os = w.os ∧ w.drawn ≤ w1.drawn) ∧ w1.tape = w.tape ∧ w1.output = w.output) ∧ w1.heap = w.heap ∧ w' = w1.setRow g (putC (putC c (base + (k + 2)) (rowC c (base + (k + 1)) N)) (base + k) (rowC d hb 2)) := by
  obtain ⟨i, z, hi, hsz, hby, hz, hzc, hz1, _⟩ := (tok 32 _ T_32).info
  have hne : ¬ ((k : Int) = (k : Int) + 1) := by omega
  have hmx := mixed
  have hck : ¬ (cap = k) := by omega
  have hck2 : ¬ (cap = k + 2) := by omega
  have hle : (k : Int) + 1 ≤ cap := by omega
  have hle2 : (k : Int) ≤ cap := by omega
  have hw1 : IntKind.i64.wrap ((k : Int) + 2) = (k : Int) + 2 := by rw [IntKind.wrap_i64]; omega
  have hw2 : IntKind.i64.wrap ((k : Int) + 2 + (N : Int)) = (k : Int) + 2 + (N : Int) := by rw [IntKind.wrap_i64]; omega
  have hsb : k + 1 + N - (k + 1) = N := by omega
  have hsb2 : k + 2 + N - (k + 2) = N := by omega
  have hge : ¬ ((cap : Int) < (k : Int) + 2 + (N : Int)) := by omega
  have hge2 : (k : Int) + 2 + (N : Int) ≤ cap := by omega
  have hge3 : (0 : Int) ≤ (k : Int) + 2 + (N : Int) := by omega
  have htn : ((k : Int) + 2 + (N : Int)).toNat = k + 2 + N := by omega
  have hp1 : (0 : Int) ≤ (k : Int) + 2 := by omega
  have hp2 : (k : Int) + 2 ≤ (k : Int) + 2 + (N : Int) := by omega
  have hp3 : ((k : Int) + 2).toNat = k + 2 := by omega
  have hp4 : (0 : Int) ≤ (k : Int) + 1 := by omega
  have hp5 : (k : Int) + 1 ≤ (k : Int) + 1 + (N : Int) := by omega
  have hp6 : ((k : Int) + 1).toNat = k + 1 := by omega
  have hck1 : ¬ (cap = k + 1) := by omega
  have hp7 : k + 2 ≤ k + 2 + N := by omega
  have hp8 : k + 1 ≤ k + 1 + N := by omega
  have hg1 : w.drew.heap[g]? = some (.cells c el (0, 0)) := hg
  have hh1 : w.drew.heap[h]? = some (.cells d el' (0, 0)) := hh
  have hg2 : w.drew.drew.heap[g]? = some (.cells c el (0, 0)) := hg
  have hcp1 : ∀ ty dc sc, (Builtin.copy_ #[22, 22] ty #[.slice (some ⟨g, base + (k + 2), none⟩) N dc, .slice (some ⟨g, base + (k + 1), none⟩) N sc]).run Tryz.prog w.drew.drew = .ok (goInt (min N N : Nat)) (w.drew.drew.setRow g (putC c (base + (k + 2)) (rowC c (base + (k + 1)) (min N N)))) := fun ty dc sc =>
    run_copy_at und_tt hi hsz hg2 hg2 (by omega) (by omega) h1c
  simp only [Nat.min_self] at hcp1
  have f1 : base + (k + 2) + (rowC c (base + (k + 1)) N).length ≤ c.size := by simp; omega
  have hgr := setRow_heap w.drew.drew g c (putC c (base + (k + 2)) (rowC c (base + (k + 1)) N)) el (0, 0) hg2
  have hhr : (w.drew.drew.setRow g (putC c (base + (k + 2)) (rowC c (base + (k + 1)) N))).heap[h]? = some (.cells d el' (0, 0)) := by
    rw [setRow_other _ _ _ _ (Ne.symm hgh)]; exact hh
  have hcp2 : ∀ ty dc sc, (Builtin.copy_ #[22, 22] ty #[.slice (some ⟨g, base + k, none⟩) (k + 2 + N - k) dc, .slice (some ⟨h, hb, none⟩) 2 sc]).run Tryz.prog (w.drew.drew.setRow g (putC c (base + (k + 2)) (rowC c (base + (k + 1)) N))) = .ok (goInt (min 2 (k + 2 + N - k) : Nat)) ((w.drew.drew.setRow g (putC c (base + (k + 2)) (rowC c (base + (k + 1)) N))).setRow g (putC (putC c (base + (k + 2)) (rowC c (base + (k + 1)) N)) (base + k) (rowC d hb (min 2 (k + 2 + N - k))))) := fun ty dc sc =>
    run_copy_at und_tt hi hsz hgr hhr (by rw [putC_size f1]; omega) (by omega) h1
  rw [show min 2 (k + 2 + N - k) = 2 by omega, setRow_setRow] at hcp2
  have hov : ∀ la ca, (callFunc 34 #[.slice (some ⟨g, base + (k + 2), none⟩) la ca, .slice (some ⟨h, hb, none⟩) 2 hcap]).run Tryz.prog w.drew = (.ok (.value (.bool false)) w.drew : Result Next) := fun la ca => by
    rw [run_callFunc_extern Tryz.func34 (by kernel_rfl) (by kernel_rfl) (by kernel_rfl) (e := Extern.SlicesOverlaps.overlaps #[22, 22] #[4]) (by kernel_rfl),
      Lib.run_overlaps_apart w.drew 22 4 32 und_tt 1 (by intro w; simp [sizeOf, typeInfo, hi, hsz]) ⟨g, base + (k + 2), none⟩ ⟨h, hb, none⟩ la ca 2 hcap hgh el el' c.size d.size (by simp [World.shape?, hg1]) (by simp [World.shape?, hh1]) (by omega) (by simp [World.frozen?, hg1]) (by simp [World.frozen?, hg1])]
    rfl
  go_enter Tryz.func18, Tryz.ntmps18
  go_wp2
  go_region_o
  go_wp2_with (simp only [hov])
  go_region_law_o (refine step_copy_runI rfl _ _ 22 22 rfl (.slice (some ⟨g, base + (k + 2), none⟩) N (cap - (k + 2))) (.slice (some ⟨g, base + (k + 1), none⟩) N (cap - (k + 1))) (by simp [Act.eval, Act.put]) (by simp [Act.eval, Act.put]) (hcp1 _ _ _) ?_)
  go_wp2_with (at_builtin; refine wpList_copy_runI _ rfl _ _ 22 22 rfl _ _ rfl rfl (hcp2 _ _ _) ?_)
  go_ret
  exact ⟨rfl, w.drew.drew, ⟨⟨rfl, Nat.le_trans (Nat.le_succ _) (Nat.le_succ _)⟩, rfl, rfl⟩, rfl, rfl⟩
set_option maxHeartbeats 4000000 in
set_option maxRecDepth 100000 in
theorem replace_mid_new (w W1 : World) (g base cap k N : Nat) (c : Array Value) (el : TypeId) (h hb hcap : Nat) (d : Array Value) (el' : TypeId) (q cq : Nat) (C : Array Value) (elq : TypeId) (hgh : g ≠ h) (hqg : g ≠ q) (hqh : h ≠ q)
    (hg : W1.heap[g]? = some (.cells c el (0, 0))) (hh : W1.heap[h]? = some (.cells d el' (0, 0))) (hq : W1.heap[q]? = some (.cells C elq (0, 0))) (hC : cq = C.size) (hcq : k + (2 + N) ≤ cq)
    (hf : base + cap = c.size) (hf' : hb + hcap = d.size) (h2 : 2 ≤ hcap) (h1 : ∀ j, j < d.size → (d.getD j undef).oneCell' = true) (h1c : ∀ j, j < c.size → (c.getD j undef).oneCell' = true) (hN : 1 ≤ N) (hkc : k + 1 + N ≤ cap) (hroom : cap < k + 2 + N) (hbig : k + 2 + N ≤ 1001)
    (hap : ∀ ty, (Builtin.append_ #[22, 3] ty #[.slice (some ⟨g, base, none⟩) k cap, .int .i64 ((2 + N : Nat) : Int)]).run Tryz.prog w.drew = .ok (.slice (some ⟨q, 0, none⟩) (k + (2 + N)) cq) W1) :
    Calls Tryz.prog 18 #[.slice (some ⟨g, base, none⟩) (k + 1 + N) cap, .int .i64 (k : Int), .int .i64 ((k : Int) + 1), .slice (some ⟨h, hb, none⟩) 2 hcap] w fun e w' =>
      e = .returned (.slice (some ⟨q, 0, none⟩) (k + (2 + N)) cq) ∧ w' = W1.drew.setRow q (putC (putC C (0 + k) (rowC d hb 2)) (0 + (k + 2)) (rowC c (base + (k + 1)) N)) := by
  subst hC
  obtain ⟨i, z, hi, hsz, hby, hz, hzc, hz1, _⟩ := (tok 32 _ T_32).info
  have hne : ¬ ((k : Int) = (k : Int) + 1) := by omega
  have hmx := mixed
  have hck : ¬ (cap = k) := by omega
  have hck1 : ¬ (cap = k + 1) := by omega
  have hcqk : ¬ (C.size = k) := by omega
  have hcqk2 : ¬ (C.size = k + 2) := by omega
  have hle : (k : Int) + 1 ≤ cap := by omega
  have hle2 : (k : Int) ≤ cap := by omega
  have hw1 : IntKind.i64.wrap ((k : Int) + 2) = (k : Int) + 2 := by rw [IntKind.wrap_i64]; omega
  have hw2 : IntKind.i64.wrap ((k : Int) + 2 + (N : Int)) = (k : Int) + 2 + (N : Int) := by rw [IntKind.wrap_i64]; omega
  have hw3 : IntKind.i64.wrap ((k : Int) + 2 + (N : Int) - (k : Int)) = ((2 + N : Nat) : Int) := by rw [IntKind.wrap_i64]; omega
  have hsb : k + 1 + N - (k + 1) = N := by omega
  have hsb2 : k + (2 + N) - (k + 2) = N := by omega
  have hge : (cap : Int) < (k : Int) + 2 + (N : Int) := by omega
  have hp1 : (0 : Int) ≤ (k : Int) + 2 := by omega
  have hp2 : (k : Int) + 2 ≤ (k : Int) + (2 + (N : Int)) := by omega
  have hp3 : ((k : Int) + 2).toNat = k + 2 := by omega
  have hp4 : (0 : Int) ≤ (k : Int) + 1 := by omega
  have hp5 : (k : Int) + 1 ≤ (k : Int) + 1 + (N : Int) := by omega
  have hp6 : ((k : Int) + 1).toNat = k + 1 := by omega
  have hp7 : k + 2 ≤ k + (2 + N) := by omega
  have hp8 : k + 1 ≤ k + 1 + N := by omega
  have f1 : 0 + k + (rowC d hb 2).length ≤ C.size := by simp; omega
  have hcp1 : ∀ ty dc sc, (Builtin.copy_ #[22, 22] ty #[.slice (some ⟨q, 0 + k, none⟩) (2 + N) dc, .slice (some ⟨h, hb, none⟩) 2 sc]).run Tryz.prog W1 = .ok (goInt (min 2 (2 + N) : Nat)) (W1.setRow q (putC C (0 + k) (rowC d hb (min 2 (2 + N))))) := fun ty dc sc =>
    run_copy_at und_tt hi hsz hq hh (by omega) (by omega) h1
  rw [show min 2 (2 + N) = 2 by omega] at hcp1
  have hqr := setRow_heap W1 q C (putC C (0 + k) (rowC d hb 2)) elq (0, 0) hq
  have hgr : (W1.setRow q (putC C (0 + k) (rowC d hb 2))).heap[g]? = some (.cells c el (0, 0)) := by
    rw [setRow_other _ _ _ _ hqg]; exact hg
  have hqr2 : (W1.setRow q (putC C (0 + k) (rowC d hb 2))).drew.heap[q]? = some (.cells (putC C (0 + k) (rowC d hb 2)) elq (0, 0)) := hqr
  have hgr2 : (W1.setRow q (putC C (0 + k) (rowC d hb 2))).drew.heap[g]? = some (.cells c el (0, 0)) := hgr
  have hcp2 : ∀ ty dc sc, (Builtin.copy_ #[22, 22] ty #[.slice (some ⟨q, 0 + (k + 2), none⟩) N dc, .slice (some ⟨g, base + (k + 1), none⟩) N sc]).run Tryz.prog (W1.setRow q (putC C (0 + k) (rowC d hb 2))).drew = .ok (goInt (min N N : Nat)) ((W1.setRow q (putC C (0 + k) (rowC d hb 2))).drew.setRow q (putC (putC C (0 + k) (rowC d hb 2)) (0 + (k + 2)) (rowC c (base + (k + 1)) (min N N)))) := fun ty dc sc =>
    run_copy_at und_tt hi hsz hqr2 hgr2 (by rw [putC_size f1]; omega) (by omega) h1c
  simp only [Nat.min_self] at hcp2
  simp only [Nat.zero_add] at hcp1 hcp2 ⊢
  go_enter Tryz.func18, Tryz.ntmps18
  go_wp2
  go_region_o
  go_wp2_with (at_builtin; first | refine Lib.wpList_append_run _ rfl _ _ _ _ rfl _ _ rfl rfl _ _ (hap _) ?_ | refine wpList_copy_runI _ rfl _ _ 22 22 rfl _ _ rfl rfl (hcp1 _ _ _) ?_)
  go_region_law_o (refine step_copy_runI rfl _ _ 22 22 rfl (.slice (some ⟨q, k + 2, none⟩) N (C.size - (k + 2))) (.slice (some ⟨g, base + (k + 1), none⟩) N (cap - (k + 1))) (by simp [Act.eval, Act.put]) (by simp [Act.eval, Act.put]) (hcp2 _ _ _) ?_)
  go_wp2
  go_ret
  exact ⟨rfl, setRow_setRow W1.drew q (putC C k (rowC d hb 2)) _⟩
theorem replace_mv (k n : Nat) (hk : k < n) (hn : n ≤ 1000) : CallMv Tryz.prog 18 k n := by
  refine ⟨⟨_, Tryz.func18, by decide +kernel, by simp [Tryz.f18]⟩, ?_⟩
  intro w g base cap c el h hb hcap d el' hgh hg hf hnc h1c hh hf' h2 h1
  obtain ⟨i, z, hi, hsz, hby, hz, hzc, hz1, _⟩ := (tok 32 _ T_32).info
  have hby' : i.bytes ≤ 4096 := by rw [hby]; decide
  have hglt : g < w.heap.size := lt_of_heap hg
  have hhlt : h < w.heap.size := lt_of_heap hh
  have hzc1 : ∀ j, j < z.cells.size → (z.cells.getD j undef).oneCell' = true := fun j hj => hz1 j (by omega)
  have hzpos : 0 < z.cells.size := by rw [hzc]; exact Nat.one_pos
  by_cases hend : k + 1 = n
  · subst hend
    by_cases hroom : k + 2 ≤ cap
    · refine Calls.mono (replace_end w _ g base cap k h hb hcap _ _ _ hnc (by omega) fun ty => run_append_at und_tt und_tt hi hsz hg hh hroom (by omega) (by omega) h1) ?_
      rintro e w' ⟨rfl, rfl⟩
      have f1 : base + k + (rowC d hb 2).length ≤ c.size := by simp; omega
      refine ⟨g, base, cap, _, el, rfl, .inl rfl, setRow_heap w g c _ el (0, 0) hg, by rw [putC_size f1]; omega, by omega, putC_one f1 h1c (rowC_one h1 (by omega)), fun i hi' => moved_end hf hroom hi', ⟨⟨rfl, Nat.le_refl _⟩, rfl, rfl⟩, by simp, fun b hb' hne => setRow_other w g b _ hne⟩
    · have hge := grownCap_ge w (k + 2) cap 32
      refine Calls.mono (replace_end w _ g base cap k h hb hcap _ _ _ hnc (by omega) fun ty => run_append_new und_tt und_tt hi hsz hz hby' hg hh (by omega) (by omega) (by omega) (by omega)) ?_
      rintro e w' ⟨rfl, rfl⟩
      have hsC : ((rowC c base k).toArray ++ (rowC d hb 2).toArray ++ Builtin.zeroCells z.cells (grownCap w (k + 2) cap 32 - (k + 2))).size = grownCap w (k + 2) cap 32 := by
        simp only [Array.size_append, List.size_toArray, rowC_len, size_zeroCells, hzc]
        omega
      refine ⟨w.heap.size, 0, _, _, _, rfl, .inr (Nat.le_refl _), alloc_new w.drew _, by rw [hsC]; omega, by omega, one_append (one_append ?_ ?_) (one_zeros hzc1 hzpos _), fun i hi' => moved_new hi', ⟨⟨rfl, Nat.le_succ _⟩, rfl, rfl⟩, by simp [World.alloc], fun b hb' _ => Go.Abs.alloc_old w.drew _ hb'⟩
      · intro j hj
        have hj' : j < k := by simpa using hj
        rw [Array.getD_eq_getD_getElem?, List.getElem?_toArray, ← List.getD_eq_getElem?_getD, rowC_get hj']
        exact h1c _ (by omega)
      · intro j hj
        have hj' : j < 2 := by simpa using hj
        rw [Array.getD_eq_getD_getElem?, List.getElem?_toArray, ← List.getD_eq_getElem?_getD, rowC_get hj']
        exact h1 _ (by omega)
  · obtain ⟨N, rfl⟩ : ∃ N, n = k + 1 + N := ⟨n - (k + 1), by omega⟩
    have hN : 1 ≤ N := by omega
    have eN : k + 1 + N - (k + 1) = N := by omega
    have e3 : k + 2 + N = k + 1 + N + 1 := by omega
    by_cases hroom : k + 2 + N ≤ cap
    · refine Calls.mono (replace_mid_room w g base cap k N c el h hb hcap d el' hgh hg hh hf hf' h2 h1 h1c hN hroom (by omega)) ?_
      rintro e w' ⟨rfl, w1, hw1, hw2, rfl⟩
      have f1 : base + (k + 2) + (rowC c (base + (k + 1)) N).length ≤ c.size := by simp; omega
      have f2 : base + k + (rowC d hb 2).length ≤ (putC c (base + (k + 2)) (rowC c (base + (k + 1)) N)).size := by rw [putC_size f1]; simp; omega
      have hg1 : w1.heap[g]? = some (.cells c el (0, 0)) := by rw [hw2]; exact hg
      refine ⟨g, base, cap, _, el, by rw [e3], .inl rfl, setRow_heap w1 g c _ el (0, 0) hg1, by rw [putC_size f2, putC_size f1]; omega, by omega, putC_one f2 (putC_one f1 h1c (rowC_one h1c (by omega))) (rowC_one h1 (by omega)), fun i hi' => ?_, ?_, by rw [setRow_size, hw2]; exact Nat.le_refl _, fun b hb' hne => by rw [setRow_other w1 g b _ hne, hw2]⟩
      · have := moved_mid (c := c) (d := d) (base := base) (hb := hb) (k := k) (n := k + 1 + N) hf (by omega) (by omega) hi'
        rw [eN] at this
        exact this
      · exact hw1
    · have hge := grownCap_ge w.drew (k + (2 + N)) cap 32
      have hgd : w.drew.heap[g]? = some (.cells c el (0, 0)) := hg
      have hsC : ((rowC c base k).toArray ++ Builtin.zeroCells z.cells (2 + N) ++ Builtin.zeroCells z.cells (grownCap w.drew (k + (2 + N)) cap 32 - (k + (2 + N)))).size = grownCap w.drew (k + (2 + N)) cap 32 := by
        simp only [Array.size_append, List.size_toArray, rowC_len, size_zeroCells, hzc]
        omega
      refine Calls.mono (replace_mid_new w _ g base cap k N c el h hb hcap d el' w.heap.size _ _ _ hgh (by omega) (by omega) ((Go.Abs.alloc_old w.drew.drew _ hglt).trans hg) ((Go.Abs.alloc_old w.drew.drew _ hhlt).trans hh) (alloc_new w.drew.drew _) hsC.symm (by omega) hf hf' h2 h1 h1c hN (by omega) (by omega) (by omega)
        (fun ty => run_append_made und_tt und_int hi hz hsz hby' hgd (by omega) (by omega) (by omega) (by omega))) ?_
      rintro e w' ⟨rfl, rfl⟩
      have hC1 : ∀ j, j < ((rowC c base k).toArray ++ Builtin.zeroCells z.cells (2 + N) ++ Builtin.zeroCells z.cells (grownCap w.drew (k + (2 + N)) cap 32 - (k + (2 + N)))).size → (((rowC c base k).toArray ++ Builtin.zeroCells z.cells (2 + N) ++ Builtin.zeroCells z.cells (grownCap w.drew (k + (2 + N)) cap 32 - (k + (2 + N)))).getD j undef).oneCell' = true := by
        refine one_append (one_append ?_ (one_zeros hzc1 hzpos _)) (one_zeros hzc1 hzpos _)
        intro j hj
        have hj' : j < k := by simpa using hj
        rw [Array.getD_eq_getD_getElem?, List.getElem?_toArray, ← List.getD_eq_getElem?_getD, rowC_get hj']
        exact h1c _ (by omega)
      have hC0 : ∀ i, i < k → ((rowC c base k).toArray ++ Builtin.zeroCells z.cells (2 + N) ++ Builtin.zeroCells z.cells (grownCap w.drew (k + (2 + N)) cap 32 - (k + (2 + N)))).getD i undef = c.getD (base + i) undef := by
        intro i hik
        rw [Array.getD_eq_getD_getElem?, Array.append_assoc, Array.getElem?_append_left (by simp; omega), List.getElem?_toArray, ← List.getD_eq_getElem?_getD, rowC_get hik]
      have hqh := alloc_new w.drew.drew (.cells ((rowC c base k).toArray ++ Builtin.zeroCells z.cells (2 + N) ++ Builtin.zeroCells z.cells (grownCap w.drew (k + (2 + N)) cap 32 - (k + (2 + N)))) 32)
      have hqold : ∀ b, b < w.heap.size → (w.drew.drew.alloc (.cells ((rowC c base k).toArray ++ Builtin.zeroCells z.cells (2 + N) ++ Builtin.zeroCells z.cells (grownCap w.drew (k + (2 + N)) cap 32 - (k + (2 + N)))) 32)).heap[b]? = w.heap[b]? := fun b hb' => Go.Abs.alloc_old w.drew.drew _ hb'
      have hqsz : w.heap.size ≤ (w.drew.drew.alloc (.cells ((rowC c base k).toArray ++ Builtin.zeroCells z.cells (2 + N) ++ Builtin.zeroCells z.cells (grownCap w.drew (k + (2 + N)) cap 32 - (k + (2 + N)))) 32)).heap.size := by simp [World.alloc]
      generalize (rowC c base k).toArray ++ Builtin.zeroCells z.cells (2 + N) ++ Builtin.zeroCells z.cells (grownCap w.drew (k + (2 + N)) cap 32 - (k + (2 + N))) = C at *
      have f1 : 0 + k + (rowC d hb 2).length ≤ C.size := by rw [hsC]; simp; omega
      have f2 : 0 + (k + 2) + (rowC c (base + (k + 1)) N).length ≤ (putC C (0 + k) (rowC d hb 2)).size := by rw [putC_size f1, hsC]; simp; omega
      refine ⟨w.heap.size, 0, grownCap w.drew (k + (2 + N)) cap 32, _, 32, by rw [show k + (2 + N) = k + 1 + N + 1 by omega], .inr (Nat.le_refl _), setRow_heap (w.drew.drew.alloc (.cells C 32)).drew w.heap.size C _ 32 (0, 0) hqh, by rw [putC_size f2, putC_size f1, hsC]; omega, by omega,
        putC_one f2 (putC_one f1 hC1 (rowC_one h1 (by omega))) (rowC_one h1c (by omega)), fun i hi' => ?_, ⟨⟨rfl, Nat.le_trans (Nat.le_succ _) (Nat.le_trans (Nat.le_succ _) (Nat.le_succ _))⟩, rfl, rfl⟩, by rw [setRow_size]; exact hqsz, fun b hb' hne => ?_⟩
      · have := moved_big (c := c) (d := d) (base := base) (hb := hb) (k := k) (n := k + 1 + N) (C := C) (by omega) (by omega) hC0 hi'
        rw [eN] at this
        exact this
      · rw [setRow_other _ _ _ _ (by omega)]
        exact hqold b hb'
end Go.Proofs.YtphkchjhghdhiaaGreat
end

section
/- Plain: words in ascending order; a list into which words are put in order; words by a queue and by going deep are the same. -/
namespace Go.Proofs.YtphkchjhghdhiaaGreat
open Go.Abs Go

theorem el_mem_of {α : Type} [Inhabited α] (o : List α) (k : Nat) (h : k < o.length) : el o k ∈ o := by rw [el_eq o k h]; exact List.getElem_mem h
/-- Whether a word comes before another one. -/
def bef : List Int → List Int → Bool
  | _, [] => false
  | [], _ :: _ => true
  | x :: a, y :: b => if x = y then bef a b else decide (x < y)
theorem bef_irr : ∀ a : List Int, bef a a = false
  | [] => rfl
  | x :: a => by simp [bef, bef_irr a]
theorem bef_trans : ∀ {a b c : List Int}, bef a b = true → bef b c = true → bef a c = true
  | [], [], c, h, _ => by simp [bef] at h
  | _ :: _, [], c, h, _ => by simp [bef] at h
  | a, _ :: _, [], _, h => by simp [bef] at h
  | [], _ :: _, _ :: _, _, _ => rfl
  | x :: a, y :: b, z :: c, h1, h2 => by
    simp only [bef] at h1 h2 ⊢
    by_cases e1 : x = y
    · subst e1
      by_cases e2 : x = z
      · subst e2
        simp only [if_true] at h1 h2 ⊢
        exact bef_trans h1 h2
      · rw [if_neg e2] at h2 ⊢
        exact h2
    · rw [if_neg e1] at h1
      simp only [decide_eq_true_eq] at h1
      by_cases e2 : y = z
      · subst e2
        rw [if_neg e1]
        simpa using h1
      · rw [if_neg e2] at h2
        simp only [decide_eq_true_eq] at h2
        rw [if_neg (by omega)]
        simp only [decide_eq_true_eq]
        omega
theorem bef_total : ∀ {a b : List Int}, a ≠ b → bef a b = true ∨ bef b a = true
  | [], [], h => absurd rfl h
  | [], _ :: _, _ => .inl rfl
  | _ :: _, [], _ => .inr rfl
  | x :: a, y :: b, h => by
    simp only [bef]
    by_cases e : x = y
    · subst e
      simp only [if_true]
      exact bef_total fun e => h (by rw [e])
    · have e' : ¬ y = x := fun q => e q.symm
      rw [if_neg e, if_neg e']
      simp only [decide_eq_true_eq]
      omega
theorem bef_asymm {a b : List Int} (h : bef a b = true) : bef b a = false := by
  cases h2 : bef b a with
  | false => rfl
  | true =>
    have := bef_trans h h2
    rw [bef_irr] at this
    cases this
def sortedW (l : List (List Int)) : Prop := l.Pairwise fun a b => bef a b = true
/-- Lists in order with the same members are equal. -/
theorem sorted_eq : ∀ {l m : List (List Int)}, sortedW l → sortedW m → (∀ x, x ∈ l ↔ x ∈ m) → l = m
  | [], [], _, _, _ => rfl
  | [], y :: m, _, _, h => by have := (h y).2 (by simp); cases this
  | x :: l, [], _, _, h => by have := (h x).1 (by simp); cases this
  | x :: l, y :: m, hl, hm, h => by
    unfold sortedW at hl hm
    rw [List.pairwise_cons] at hl hm
    have hxy : x = y := by
      rcases List.mem_cons.1 ((h x).1 (by simp)) with e | hx
      · exact e
      · rcases List.mem_cons.1 ((h y).2 (by simp)) with e | hy
        · exact e.symm
        · have h1 := hl.1 y hy
          have h2 := hm.1 x hx
          rw [bef_asymm h1] at h2
          cases h2
    subst hxy
    rw [sorted_eq hl.2 hm.2 fun z => ?_]
    have hz := h z
    simp only [List.mem_cons] at hz
    constructor
    · intro hzl
      rcases hz.1 (.inr hzl) with e | e
      · subst e
        have := hl.1 z hzl
        rw [bef_irr] at this; cases this
      · exact e
    · intro hzm
      rcases hz.2 (.inr hzm) with e | e
      · subst e
        have := hm.1 z hzm
        rw [bef_irr] at this; cases this
      · exact e

end Go.Proofs.YtphkchjhghdhiaaGreat
end

section
/- Plain: lists in order, different members, lists without equal neighbours. (assembled out of PFew, StD, SortL, SortI, FqA, FqF, PIns, FnE, FnF) -/
namespace Go.Proofs.YtphkchjhghdhiaaGreat
open Go.Abs Go
abbrev Word := List Int

/-! ### different members -/
/-- The members of a list that are not in another one, each once. -/
def freshL {α : Type} [DecidableEq α] : List α → List α → List α
  | _, [] => []
  | s, x :: l => if x ∈ s then freshL s l else x :: freshL (x :: s) l
theorem mem_freshL {α : Type} [DecidableEq α] {x : α} : ∀ {l s : List α}, x ∈ freshL s l ↔ x ∈ l ∧ x ∉ s
  | [], s => by simp [freshL]
  | y :: l, s => by
    rw [freshL]
    split
    · rename_i h
      rw [mem_freshL, List.mem_cons]
      constructor
      · rintro ⟨h1, h2⟩; exact ⟨.inr h1, h2⟩
      · rintro ⟨rfl | h1, h2⟩
        · exact absurd h h2
        · exact ⟨h1, h2⟩
    · rename_i h
      rw [List.mem_cons, mem_freshL, List.mem_cons, List.mem_cons, not_or]
      constructor
      · rintro (rfl | ⟨h1, h2, h3⟩)
        · exact ⟨.inl rfl, h⟩
        · exact ⟨.inr h1, h3⟩
      · rintro ⟨rfl | h1, h2⟩
        · exact .inl rfl
        · by_cases e : x = y
          · exact .inl e
          · exact .inr ⟨h1, e, h2⟩
theorem nodup_freshL {α : Type} [DecidableEq α] : ∀ {l s : List α}, (freshL s l).Nodup
  | [], s => by simp [freshL]
  | y :: l, s => by
    rw [freshL]
    split
    · exact nodup_freshL
    · rw [List.nodup_cons]
      refine ⟨fun h => ?_, nodup_freshL⟩
      have := (mem_freshL.1 h).2
      simp at this
theorem nodup_le {α : Type} [DecidableEq α] : ∀ {l m : List α}, l.Nodup → (∀ x ∈ l, x ∈ m) → l.length ≤ m.length
  | [], m, _, _ => by simp
  | x :: l, m, h, hs => by
    rw [List.nodup_cons] at h
    have hx := hs x (by simp)
    have h1 : l.length ≤ (m.erase x).length := nodup_le h.2 fun y hy => (List.mem_erase_of_ne (fun e => h.1 (by rw [← e]; exact hy))).2 (hs y (by simp [hy]))
    rw [List.length_erase_of_mem hx] at h1
    have : 0 < m.length := List.length_pos_of_mem hx
    simp only [List.length_cons]
    omega
theorem nodup_same {α : Type} [DecidableEq α] {l m : List α} (h : l.Nodup) (h' : m.Nodup) (hs : ∀ x, x ∈ l ↔ x ∈ m) : l.length = m.length :=
  Nat.le_antisymm (nodup_le h fun x => (hs x).1) (nodup_le h' fun x => (hs x).2)
/-- How many different members a list has. -/
def diffN {α : Type} [DecidableEq α] (l : List α) : Nat := (freshL [] l).length
theorem diffN_of {α : Type} [DecidableEq α] {l m : List α} (h : m.Nodup) (hs : ∀ x, x ∈ m ↔ x ∈ l) : diffN l = m.length :=
  nodup_same nodup_freshL h fun x => by rw [mem_freshL, hs]; simp
/-! ### lists of words in order -/
/-- No later one comes before an earlier one. -/
def inOrder (l : List (List Int)) : Prop := l.Pairwise fun a b => bef b a = false
theorem order_same : ∀ {l m : List (List Int)}, l.Perm m → inOrder l → inOrder m → l = m
  | [], m, h, _, _ => by simpa using h.symm
  | x :: l, [], h, _, _ => by simp at h
  | x :: l, y :: m, h, hl, hm => by
    unfold inOrder at hl hm
    rw [List.pairwise_cons] at hl hm
    have hxy : x = y := by
      apply Classical.byContradiction
      intro hne
      have hx : x ∈ m := by
        rcases List.mem_cons.1 (h.mem_iff.1 (List.mem_cons_self)) with e | e
        · exact absurd e hne
        · exact e
      have hy : y ∈ l := by
        rcases List.mem_cons.1 (h.mem_iff.2 (List.mem_cons_self)) with e | e
        · exact absurd e.symm hne
        · exact e
      have h1 := hl.1 y hy
      have h2 := hm.1 x hx
      rcases bef_total hne with e | e
      · rw [e] at h2; cases h2
      · rw [e] at h1; cases h1
    subst hxy
    rw [order_same (List.Perm.cons_inv h) hl.2 hm.2]
def insO (w : List Int) : List (List Int) → List (List Int)
  | [] => [w]
  | x :: l => if bef x w then x :: insO w l else w :: x :: l
/-- The words in ascending order. -/
def sortW : List (List Int) → List (List Int)
  | [] => []
  | x :: l => insO x (sortW l)
theorem insO_perm (w : List Int) : ∀ l : List (List Int), (insO w l).Perm (w :: l)
  | [] => List.Perm.refl _
  | x :: l => by
    rw [insO]
    split
    · exact ((insO_perm w l).cons x).trans (List.Perm.swap w x l)
    · exact List.Perm.refl _
theorem sortW_perm : ∀ l : List (List Int), (sortW l).Perm l
  | [] => List.Perm.refl _
  | x :: l => (insO_perm x (sortW l)).trans ((sortW_perm l).cons x)
theorem bef_flip {a b : List Int} (h : bef a b = true) : bef b a = false := bef_asymm h
theorem bef_no_trans {a b c : List Int} (h : bef b a = false) (k : bef c b = false) : bef c a = false := by
  cases hc : bef c a with
  | false => rfl
  | true =>
    by_cases e1 : a = b
    · subst e1; rw [k] at hc; cases hc
    · by_cases e2 : b = c
      · subst e2; rw [h] at hc; cases hc
      · rcases bef_total e1 with e | e
        · have := bef_trans hc e
          rw [this] at k; cases k
        · rw [e] at h; cases h
theorem insO_order {w : List Int} : ∀ {l : List (List Int)}, inOrder l → inOrder (insO w l)
  | [], _ => by simp [insO, inOrder]
  | x :: l, h => by
    unfold inOrder at h
    rw [List.pairwise_cons] at h
    rw [insO]
    split
    · rename_i hb
      unfold inOrder
      rw [List.pairwise_cons]
      refine ⟨fun y hy => ?_, insO_order h.2⟩
      rcases List.mem_cons.1 ((insO_perm w l).mem_iff.1 hy) with rfl | hy
      · exact bef_flip hb
      · exact h.1 y hy
    · rename_i hb
      have hb' : bef x w = false := by simpa using hb
      unfold inOrder
      rw [List.pairwise_cons]
      refine ⟨fun y hy => ?_, by rw [List.pairwise_cons]; exact h⟩
      rcases List.mem_cons.1 hy with rfl | hy
      · exact hb'
      · exact bef_no_trans hb' (h.1 y hy)
theorem sortW_order : ∀ l : List (List Int), inOrder (sortW l)
  | [] => by simp [sortW, inOrder]
  | x :: l => insO_order (sortW_order l)

/-- How two words compare. -/
def cmpW (a b : List Int) : Int := if a = b then 0 else if bef a b then -1 else 1


def sortI (l : List Int) : List Int := l.mergeSort fun x y => decide (x ≤ y)
theorem sortI_perm (l : List Int) : (sortI l).Perm l := List.mergeSort_perm _ _
theorem sortI_len (l : List Int) : (sortI l).length = l.length := (sortI_perm l).length_eq
theorem sortI_sorted (l : List Int) : (sortI l).Pairwise fun x y => x ≤ y := by
  have := List.pairwise_mergeSort (le := fun x y : Int => decide (x ≤ y)) (fun a b c h1 h2 => by simp at h1 h2 ⊢; omega) (fun a b => by simp; omega) l
  simpa [sortI] using this
theorem sortI_eq {l m : List Int} (hp : l.Perm m) (hs : m.Pairwise fun x y => x ≤ y) : sortI l = m := by
  refine List.Perm.eq_of_pairwise (le := fun x y : Int => x ≤ y) (fun a b _ _ h1 h2 => by omega) (sortI_sorted l) hs ((sortI_perm l).trans hp)
/-- A list whose equal neighbours are one. -/
def comI (p : Int) : List Int → List Int
  | [] => []
  | y :: l => if y = p then comI p l else y :: comI y l
def compI : List Int → List Int
  | [] => []
  | x :: l => x :: comI x l
theorem comI_num : ∀ (p : Int) (l : List Int), (comI p l).length ≤ l.length
  | p, [] => by simp [comI]
  | p, y :: l => by
    rw [comI]
    split
    · have := comI_num p l; simp; omega
    · have := comI_num y l; simp; omega
theorem compI_num (l : List Int) : (compI l).length ≤ l.length := by
  cases l with
  | nil => simp [compI]
  | cons x l => simp only [compI, List.length_cons]; have := comI_num x l; omega
theorem comI_spec : ∀ (p : Int) (l : List Int), (p :: l).Pairwise (fun x y => x ≤ y) → (p :: comI p l).Pairwise (· < ·) ∧ ∀ z, z ∈ p :: comI p l ↔ z ∈ p :: l
  | p, [], _ => by simp [comI]
  | p, y :: l, h => by
    rw [List.pairwise_cons] at h
    rw [comI]
    split
    · rename_i e
      subst e
      obtain ⟨h1, h2⟩ := comI_spec y l h.2
      exact ⟨h1, fun z => by rw [h2]; simp⟩
    · rename_i e
      obtain ⟨h1, h2⟩ := comI_spec y l h.2
      have hpy : p < y := by have := h.1 y (by simp); omega
      refine ⟨?_, fun z => ?_⟩
      · have h3 := h1
        rw [List.pairwise_cons] at h1 ⊢
        refine ⟨fun z hz => ?_, h3⟩
        rcases List.mem_cons.1 hz with rfl | hz
        · exact hpy
        · have := h1.1 z hz; omega
      · rw [List.mem_cons, h2, ← List.mem_cons]
theorem compI_spec (l : List Int) (h : l.Pairwise (fun x y => x ≤ y)) : (compI l).Pairwise (· < ·) ∧ ∀ z, z ∈ compI l ↔ z ∈ l := by
  cases l with
  | nil => simp [compI]
  | cons x l => exact comI_spec x l h
theorem diffN_comp (l : List Int) : (compI (sortI l)).length = diffN l := by
  obtain ⟨h1, h2⟩ := compI_spec (sortI l) (sortI_sorted l)
  symm
  refine diffN_of (h1.imp fun h => by omega) fun x => ?_
  rw [h2, (sortI_perm l).mem_iff]
theorem take_setI {α : Type} [Inhabited α] (o : List α) (i : Nat) (v : α) (hi : i < o.length) : (o.set i v).take (i + 1) = o.take i ++ [v] := by
  rw [take_succ _ i (by simpa using hi)]
  have : el (o.set i v) i = v := by unfold el; simp [hi]
  rw [this, List.take_set, List.set_eq_of_length_le (by simp; omega)]
def cmpI (a b : Int) : Int := if a < b then -1 else if b < a then 1 else 0
theorem cmpW_nil : cmpW [] [] = 0 := rfl
theorem cmpW_short (y : Int) (m : List Int) : cmpW [] (y :: m) = -1 := by simp [cmpW, bef]
theorem cmpW_long (x : Int) (l : List Int) : cmpW (x :: l) [] = 1 := by simp [cmpW, bef]
theorem cmpW_cons (x y : Int) (l m : List Int) : cmpW (x :: l) (y :: m) = if cmpI x y ≠ 0 then cmpI x y else cmpW l m := by
  unfold cmpW cmpI
  by_cases h : x = y
  · subst h; simp [bef]
  · by_cases h2 : x < y
    · simp [bef, h, h2]
    · have : y < x := by omega
      simp [bef, h, h2, this]
/-- A list whose equal neighbours are one. -/
def compF (p : List Int) : List (List Int) → List (List Int)
  | [] => []
  | y :: l => if y = p then compF p l else y :: compF y l
def compW : List (List Int) → List (List Int)
  | [] => []
  | x :: l => x :: compF x l
theorem compF_num : ∀ (p : List Int) (l : List (List Int)), (compF p l).length ≤ l.length
  | p, [] => by simp [compF]
  | p, y :: l => by
    rw [compF]
    split
    · have := compF_num p l; simp; omega
    · have := compF_num y l; simp; omega
/-- The words, each once, in order. -/
def uniq (l : List Word) : List Word := compW (sortW l)
theorem take_setG {α : Type} [Inhabited α] (o : List α) (i : Nat) (v : α) (hi : i < o.length) : (o.set i v).take (i + 1) = o.take i ++ [v] := by
  rw [take_succ _ i (by simpa using hi)]
  have : el (o.set i v) i = v := by unfold el; simp [hi]
  rw [this, List.take_set, List.set_eq_of_length_le (by simp; omega)]
theorem sortW_len (l : List (List Int)) : (sortW l).length = l.length := (sortW_perm l).length_eq

/-- A word put in its place; left out if it is there. -/
def insM (x : Word) : List Word → List Word
  | [] => [x]
  | y :: l => if bef y x then y :: insM x l else if y = x then y :: l else x :: y :: l
theorem mem_insM {x z : Word} : ∀ {l : List Word}, z ∈ insM x l ↔ z = x ∨ z ∈ l
  | [] => by simp [insM]
  | y :: l => by
    rw [insM]
    split
    · simp only [List.mem_cons, mem_insM (l := l)]
      constructor
      · rintro (h | h | h)
        · exact .inr (.inl h)
        · exact .inl h
        · exact .inr (.inr h)
      · rintro (h | h | h)
        · exact .inr (.inl h)
        · exact .inl h
        · exact .inr (.inr h)
    · split
      · rename_i h
        subst h
        simp
      · simp
theorem insM_sorted {x : Word} : ∀ {l : List Word}, sortedW l → sortedW (insM x l)
  | [], _ => by simp [insM, sortedW]
  | y :: l, h => by
    have h0 := h
    unfold sortedW at h
    rw [List.pairwise_cons] at h
    rw [insM]
    split
    · rename_i hb
      unfold sortedW
      rw [List.pairwise_cons]
      refine ⟨fun z hz => ?_, insM_sorted h.2⟩
      rcases mem_insM.1 hz with rfl | hz
      · exact hb
      · exact h.1 z hz
    · rename_i hb
      split
      · exact h0
      · rename_i hne
        have hxy : bef x y = true := by
          rcases bef_total hne with e | e
          · exact absurd e hb
          · exact e
        unfold sortedW
        rw [List.pairwise_cons]
        refine ⟨fun z hz => ?_, h0⟩
        rcases List.mem_cons.1 hz with rfl | hz
        · exact hxy
        · exact bef_trans hxy (h.1 z hz)
def insA : List Word → List Word → List Word
  | acc, [] => acc
  | acc, x :: l => insA (insM x acc) l
theorem insA_spec : ∀ (l acc : List Word), sortedW acc → sortedW (insA acc l) ∧ ∀ z, z ∈ insA acc l ↔ z ∈ acc ∨ z ∈ l
  | [], acc, h => ⟨h, fun z => by simp [insA]⟩
  | x :: l, acc, h => by
    obtain ⟨h1, h2⟩ := insA_spec l (insM x acc) (insM_sorted h)
    refine ⟨h1, fun z => ?_⟩
    rw [insA, h2, mem_insM, List.mem_cons]
    constructor
    · rintro ((h | h) | h)
      · exact .inr (.inl h)
      · exact .inl h
      · exact .inr (.inr h)
    · rintro (h | h | h)
      · exact .inl (.inr h)
      · exact .inl (.inl h)
      · exact .inr h
theorem compF_spec : ∀ (p : Word) (l : List Word), inOrder (p :: l) → sortedW (p :: compF p l) ∧ ∀ z, z ∈ p :: compF p l ↔ z ∈ p :: l
  | p, [], _ => by simp [compF, sortedW]
  | p, y :: l, h => by
    unfold inOrder at h
    rw [List.pairwise_cons] at h
    rw [compF]
    split
    · rename_i e
      subst e
      obtain ⟨h1, h2⟩ := compF_spec y l h.2
      exact ⟨h1, fun z => by rw [h2]; simp⟩
    · rename_i e
      obtain ⟨h1, h2⟩ := compF_spec y l h.2
      have hpy : bef p y = true := by
        rcases bef_total e with k | k
        · rw [h.1 y (by simp)] at k; cases k
        · exact k
      refine ⟨?_, fun z => ?_⟩
      · have h3 := h1
        unfold sortedW at h1 ⊢
        rw [List.pairwise_cons] at h1 ⊢
        refine ⟨fun z hz => ?_, h3⟩
        rcases List.mem_cons.1 hz with rfl | hz
        · exact hpy
        · exact bef_trans hpy (h1.1 z hz)
      · rw [List.mem_cons, h2, ← List.mem_cons]
theorem uniq_sorted (l : List Word) : sortedW (uniq l) ∧ ∀ z, z ∈ uniq l ↔ z ∈ l := by
  unfold uniq
  have ho := sortW_order l
  have hm : ∀ z, z ∈ sortW l ↔ z ∈ l := fun z => (sortW_perm l).mem_iff
  generalize sortW l = m at ho hm
  cases m with
  | nil => exact ⟨List.Pairwise.nil, fun z => by rw [← hm]; simp [compW]⟩
  | cons x m =>
    obtain ⟨h1, h2⟩ := compF_spec x m ho
    exact ⟨h1, fun z => by rw [← hm]; exact h2 z⟩
theorem uniq_insA {l m : List Word} (h : ∀ z, z ∈ l ↔ z ∈ m) : uniq l = insA [] m := by
  obtain ⟨h1, h2⟩ := uniq_sorted l
  obtain ⟨h3, h4⟩ := insA_spec m [] List.Pairwise.nil
  exact sorted_eq h1 h3 fun z => by rw [h2, h4]; simp [h]
def idxF (p : Int → Bool) : Nat → List Int → Int
  | _, [] => -1
  | k, x :: r => if p x then k else idxF p (k + 1) r
theorem idxF_any (p : Int → Bool) : ∀ (l : List Int) (k : Nat), decide (0 ≤ idxF p k l) = l.any p
  | [], k => by simp [idxF]
  | x :: r, k => by
    by_cases h : p x = true
    · simp [idxF, h]
    · simp [idxF, h, idxF_any p r (k + 1)]

def lessO (p : Option Int) (x : Int) : Bool := match p with | some y => decide (y < x) | none => true
def prevOf (l : List Int) (i : Nat) : Option Int := if i = 0 then none else some (el l (i - 1))
end Go.Proofs.YtphkchjhghdhiaaGreat
end

section
/- Functions of the cut as the value layer reads them. (written by gen.py) -/
set_option maxRecDepth 20000
namespace Go.Proofs.YtphkchjhghdhiaaGreat
open Go.Abs Go

def A19 : ACode :=
  (.seq (.reg [] [⟨some 2, (.assign (.const (.slice none 0 0))), 32, none⟩])
    (.seq (.seq (.reg [] [⟨some 3, (.move (.tmp 0)), 32, none⟩,
      ⟨some 4, (.binOp .eql 32 (.tmp 3) (.const (.slice none 0 0)) 32), 4, none⟩])
    (.cond (.tmp 4)
    (.seq (.reg [] [⟨some 2, (.assign (.const (.slice none 0 0))), 32, none⟩])
    .ret)
    .skip))
    (.seq (.reg [] [⟨some 5, (.buildSlice 32 0 #[]), 32, none⟩,
      ⟨some 6, (.move (.tmp 0)), 32, none⟩,
      ⟨some 7, (.call ⟨(.builtin .append), #[(.tmp 5), (.tmp 6)], #[32, 32]⟩), 32, none⟩,
      ⟨some 2, (.assign (.tmp 7)), 32, none⟩])
    .ret)))
theorem CO19 {args : List AV} {sz : Nat} {els : List AV} (hn : args.length ≤ 8) (h : vc Tryz.prog T [] A19 (FinO [(.tmp 2)] sz els) ⟨envOf 0 args, []⟩) : CallO Tryz.prog 19 args sz els :=
  callO_of tok mixed Tryz.func19 (by kernel_rfl) (by kernel_rfl) (by kernel_rfl : Tryz.f19.ntmps = 8) (by kernel_rfl : Tryz.f19.body.bind (strip 8 (fun _ => [])) = some A19) hn h
def A39 : ACode :=
  (.seq (.reg [] [⟨some 4, (.assign (.const (.slice none 0 0))), 32, none⟩])
    (.seq (.seq (.reg [] [⟨some 5, (.move (.tmp 1)), 3, none⟩,
      ⟨some 6, (.binOp .lss 3 (.tmp 5) (.const (.int .i64 0)) 3), 4, none⟩])
    (.cond (.tmp 6)
    (.reg [] [⟨some 7, (.makeInterface 9 (.const (.string ⟨#[99, 97, 110, 110, 111, 116, 32, 98, 101, 32, 110, 101, 103, 97, 116, 105, 118, 101]⟩))), 20, none⟩,
      ⟨none, (.panic (.tmp 7)), 0, none⟩])
    .skip))
    (.seq (.seq (.reg [] [⟨some 8, (.move (.tmp 1)), 3, none⟩,
      ⟨some 9, (.move (.tmp 0)), 32, none⟩,
      ⟨some 10, (.call ⟨(.builtin .cap), #[(.tmp 9)], #[32]⟩), 3, none⟩,
      ⟨some 11, (.move (.tmp 0)), 32, none⟩,
      ⟨some 12, (.call ⟨(.builtin .len), #[(.tmp 11)], #[32]⟩), 3, none⟩,
      ⟨some 13, (.binOp .sub 3 (.tmp 10) (.tmp 12) 3), 3, none⟩,
      ⟨some 14, (.binOp .sub 3 (.tmp 8) (.tmp 13) 3), 3, none⟩,
      ⟨some 1, (.assign (.tmp 14)), 3, none⟩])
    (.seq (.reg [] [⟨some 15, (.move (.tmp 1)), 3, none⟩,
      ⟨some 16, (.binOp .gtr 3 (.tmp 15) (.const (.int .i64 0)) 3), 4, none⟩])
    (.cond (.tmp 16)
    (.reg [] [⟨some 17, (.move (.tmp 0)), 32, none⟩,
      ⟨some 18, (.move (.tmp 0)), 32, none⟩,
      ⟨some 19, (.call ⟨(.builtin .cap), #[(.tmp 18)], #[32]⟩), 3, none⟩,
      ⟨some 20, (.slice 32 (.tmp 17) none (some (.tmp 19)) none), 32, none⟩,
      ⟨some 21, (.move (.tmp 1)), 3, none⟩,
      ⟨some 22, (.call ⟨(.builtin .append), #[(.tmp 20), (.tmp 21)], #[32, 3]⟩), 32, none⟩,
      ⟨some 23, (.move (.tmp 0)), 32, none⟩,
      ⟨some 24, (.call ⟨(.builtin .len), #[(.tmp 23)], #[32]⟩), 3, none⟩,
      ⟨some 25, (.slice 32 (.tmp 22) none (some (.tmp 24)) none), 32, none⟩,
      ⟨some 0, (.assign (.tmp 25)), 32, none⟩])
    .skip)))
    (.seq (.reg [] [⟨some 26, (.move (.tmp 0)), 32, none⟩,
      ⟨some 4, (.assign (.tmp 26)), 32, none⟩])
    .ret))))
theorem CO39 {args : List AV} {sz : Nat} {els : List AV} (hn : args.length ≤ 27) (h : vc Tryz.prog T [] A39 (FinO [(.tmp 4)] sz els) ⟨envOf 0 args, []⟩) : CallO Tryz.prog 39 args sz els :=
  callO_of tok mixed Tryz.func39 (by kernel_rfl) (by kernel_rfl) (by kernel_rfl : Tryz.f39.ntmps = 27) (by kernel_rfl : Tryz.f39.body.bind (strip 27 (fun _ => [])) = some A39) hn h
def A23 : ACode :=
  (.seq (.reg [] [⟨some 2, (.assign (.const (.slice none 0 0))), 32, none⟩])
    (.seq (.reg [] [⟨some 3, (.assign (.const (.int .i64 0))), 3, none⟩])
    (.seq (.seq (.reg [] [⟨some 9, (.move (.tmp 0)), 22, none⟩,
      ⟨some 10, (.call ⟨(.builtin .len), #[(.tmp 9)], #[22]⟩), 3, none⟩,
      ⟨some 11, (.move (.const (.int .i64 0))), 3, none⟩])
    (.block 0 (.loop (.seq (.reg [] [⟨some 12, (.binOp .lss 3 (.tmp 11) (.tmp 10) 3), 0, none⟩])
    (.seq (.cond (.tmp 12)
    .skip
    (.exit 0))
    (.seq (.block 1 (.seq (.reg [] [⟨some 13, (.indexAddr 22 (.tmp 9) (.tmp 11)), 0, none⟩,
      ⟨some 14, (.load 32 (.tmp 13)), 32, none⟩,
      ⟨some 5, (.assign (.tmp 14)), 32, none⟩])
    (.seq (.reg [] [⟨some 15, (.move (.tmp 3)), 3, none⟩,
      ⟨some 16, (.move (.tmp 5)), 32, none⟩,
      ⟨some 17, (.call ⟨(.builtin .len), #[(.tmp 16)], #[32]⟩), 3, none⟩,
      ⟨some 18, (.binOp .add 3 (.tmp 15) (.tmp 17) 3), 3, none⟩,
      ⟨some 3, (.assign (.tmp 18)), 3, none⟩])
    (.seq (.reg [] [⟨some 19, (.move (.tmp 3)), 3, none⟩,
      ⟨some 20, (.binOp .lss 3 (.tmp 19) (.const (.int .i64 0)) 3), 4, none⟩])
    (.cond (.tmp 20)
    (.reg [] [⟨some 21, (.makeInterface 9 (.const (.string ⟨#[108, 101, 110, 32, 111, 117, 116, 32, 111, 102, 32, 114, 97, 110, 103, 101]⟩))), 20, none⟩,
      ⟨none, (.panic (.tmp 21)), 0, none⟩])
    .skip)))))
    (.reg [] [⟨some 22, (.binOp .add 3 (.tmp 11) (.const (.int .i64 1)) 3), 3, none⟩,
      ⟨some 11, (.move (.tmp 22)), 3, none⟩])))))))
    (.seq (.reg [] [⟨some 23, (.move (.tmp 3)), 3, none⟩,
      ⟨some 24, (.call ⟨(.value (.func 39)), #[(.const (.slice none 0 0)), (.tmp 23)], #[32, 3]⟩), 32, none⟩,
      ⟨some 6, (.assign (.tmp 24)), 32, none⟩])
    (.seq (.seq (.reg [] [⟨some 25, (.move (.tmp 0)), 22, none⟩,
      ⟨some 26, (.call ⟨(.builtin .len), #[(.tmp 25)], #[22]⟩), 3, none⟩,
      ⟨some 27, (.move (.const (.int .i64 0))), 3, none⟩])
    (.block 2 (.loop (.seq (.reg [] [⟨some 28, (.binOp .lss 3 (.tmp 27) (.tmp 26) 3), 0, none⟩])
    (.seq (.cond (.tmp 28)
    .skip
    (.exit 2))
    (.seq (.block 3 (.seq (.reg [] [⟨some 29, (.indexAddr 22 (.tmp 25) (.tmp 27)), 0, none⟩,
      ⟨some 30, (.load 32 (.tmp 29)), 32, none⟩,
      ⟨some 8, (.assign (.tmp 30)), 32, none⟩])
    (.reg [] [⟨some 31, (.move (.tmp 6)), 32, none⟩,
      ⟨some 32, (.move (.tmp 8)), 32, none⟩,
      ⟨some 33, (.call ⟨(.builtin .append), #[(.tmp 31), (.tmp 32)], #[32, 32]⟩), 32, none⟩,
      ⟨some 6, (.assign (.tmp 33)), 32, none⟩])))
    (.reg [] [⟨some 34, (.binOp .add 3 (.tmp 27) (.const (.int .i64 1)) 3), 3, none⟩,
      ⟨some 27, (.move (.tmp 34)), 3, none⟩])))))))
    (.seq (.reg [] [⟨some 35, (.move (.tmp 6)), 32, none⟩,
      ⟨some 2, (.assign (.tmp 35)), 32, none⟩])
    .ret))))))
theorem CO23 {args : List AV} {sz : Nat} {els : List AV} (hn : args.length ≤ 36) (h : vc Tryz.prog T [] A23 (FinO [(.tmp 2)] sz els) ⟨envOf 0 args, []⟩) : CallO Tryz.prog 23 args sz els :=
  callO_of tok mixed Tryz.func23 (by kernel_rfl) (by kernel_rfl) (by kernel_rfl : Tryz.f23.ntmps = 36) (by kernel_rfl : Tryz.f23.body.bind (strip 36 (fun _ => [])) = some A23) hn h

end Go.Proofs.YtphkchjhghdhiaaGreat
end

section
/- Functions of the cut as the value layer reads them. (written by gen.py) -/
set_option maxRecDepth 20000
namespace Go.Proofs.YtphkchjhghdhiaaGreat
open Go.Abs Go

def A21 : ACode :=
  (.seq (.reg [] [⟨some 6, (.assign (.const (.bool false))), 4, none⟩])
    (.seq (.reg [] [⟨some 7, (.move (.tmp 0)), 3, none⟩,
      ⟨some 8, (.move (.tmp 1)), 3, none⟩,
      ⟨some 9, (.binOp .geq 3 (.tmp 7) (.tmp 8) 3), 4, none⟩,
      ⟨some 10, (.move (.tmp 9)), 4, none⟩,
      ⟨some 11, (.move (.tmp 0)), 3, some (10, true)⟩,
      ⟨some 12, (.move (.tmp 2)), 3, some (10, true)⟩,
      ⟨some 13, (.binOp .leq 3 (.tmp 11) (.tmp 12) 3), 4, some (10, true)⟩,
      ⟨some 14, (.pick (.tmp 10) (.tmp 13) (.const (.bool false))), 4, none⟩,
      ⟨some 6, (.assign (.tmp 14)), 4, none⟩])
    .ret))
theorem C21 {args : List AV} {r : AV} (hn : args.length ≤ 15) (h : vc Tryz.prog T [] A21 (Fin T [(.tmp 6)] r) ⟨envOf 0 args, []⟩) : CallP Tryz.prog 21 args r :=
  callP_of tok mixed Tryz.func21 (by kernel_rfl) (by kernel_rfl) (by kernel_rfl : Tryz.f21.ntmps = 15) (by kernel_rfl : Tryz.f21.body.bind (strip 15 (fun _ => [])) = some A21) hn h
def A50 : ACode :=
  (.seq (.reg [] [⟨some 4, (.assign (.const (.int .i64 0))), 3, none⟩])
    (.seq (.seq (.reg [] [⟨some 6, (.move (.tmp 0)), 32, none⟩,
      ⟨some 7, (.call ⟨(.builtin .len), #[(.tmp 6)], #[32]⟩), 3, none⟩,
      ⟨some 8, (.move (.const (.int .i64 0))), 3, none⟩])
    (.block 0 (.loop (.seq (.reg [] [⟨some 9, (.binOp .lss 3 (.tmp 8) (.tmp 7) 3), 0, none⟩])
    (.seq (.cond (.tmp 9)
    .skip
    (.exit 0))
    (.seq (.block 1 (.seq (.reg [] [⟨some 10, (.move (.tmp 8)), 3, none⟩,
      ⟨some 5, (.assign (.tmp 10)), 3, none⟩])
    (.seq (.reg [] [⟨some 11, (.move (.tmp 1)), 48, none⟩,
      ⟨some 12, (.move (.tmp 0)), 32, none⟩,
      ⟨some 13, (.move (.tmp 5)), 3, none⟩,
      ⟨some 14, (.indexAddr 32 (.tmp 12) (.tmp 13)), 0, none⟩,
      ⟨some 15, (.load 3 (.tmp 14)), 3, none⟩,
      ⟨some 16, (.call ⟨(.value (.tmp 11)), #[(.tmp 15)], #[3]⟩), 4, none⟩])
    (.cond (.tmp 16)
    (.seq (.reg [] [⟨some 17, (.move (.tmp 5)), 3, none⟩,
      ⟨some 4, (.assign (.tmp 17)), 3, none⟩])
    .ret)
    .skip))))
    (.reg [] [⟨some 18, (.binOp .add 3 (.tmp 8) (.const (.int .i64 1)) 3), 3, none⟩,
      ⟨some 8, (.move (.tmp 18)), 3, none⟩])))))))
    (.seq (.reg [] [⟨some 4, (.assign (.const (.int .i64 (-1)))), 3, none⟩])
    .ret)))
theorem C50 {args : List AV} {r : AV} (hn : args.length ≤ 19) (h : vc Tryz.prog T [] A50 (Fin T [(.tmp 4)] r) ⟨envOf 0 args, []⟩) : CallP Tryz.prog 50 args r :=
  callP_of tok mixed Tryz.func50 (by kernel_rfl) (by kernel_rfl) (by kernel_rfl : Tryz.f50.ntmps = 19) (by kernel_rfl : Tryz.f50.body.bind (strip 19 (fun _ => [])) = some A50) hn h
def A29 : ACode :=
  (.seq (.reg [] [⟨some 4, (.assign (.const (.bool false))), 4, none⟩])
    (.seq (.reg [] [⟨some 5, (.move (.tmp 0)), 32, none⟩,
      ⟨some 6, (.move (.tmp 1)), 48, none⟩,
      ⟨some 7, (.call ⟨(.value (.func 50)), #[(.tmp 5), (.tmp 6)], #[32, 48]⟩), 3, none⟩,
      ⟨some 8, (.binOp .geq 3 (.tmp 7) (.const (.int .i64 0)) 3), 4, none⟩,
      ⟨some 4, (.assign (.tmp 8)), 4, none⟩])
    .ret))
theorem C29 {args : List AV} {r : AV} (hn : args.length ≤ 9) (h : vc Tryz.prog T [] A29 (Fin T [(.tmp 4)] r) ⟨envOf 0 args, []⟩) : CallP Tryz.prog 29 args r :=
  callP_of tok mixed Tryz.func29 (by kernel_rfl) (by kernel_rfl) (by kernel_rfl : Tryz.f29.ntmps = 9) (by kernel_rfl : Tryz.f29.body.bind (strip 9 (fun _ => [])) = some A29) hn h
def A49 : ACode :=
  (.seq (.reg [] [⟨some 4, (.assign (.const (.int .i64 0))), 3, none⟩])
    (.seq (.seq (.reg [] [⟨some 6, (.move (.tmp 0)), 32, none⟩,
      ⟨some 7, (.call ⟨(.builtin .len), #[(.tmp 6)], #[32]⟩), 3, none⟩,
      ⟨some 8, (.move (.const (.int .i64 0))), 3, none⟩])
    (.block 0 (.loop (.seq (.reg [] [⟨some 9, (.binOp .lss 3 (.tmp 8) (.tmp 7) 3), 0, none⟩])
    (.seq (.cond (.tmp 9)
    .skip
    (.exit 0))
    (.seq (.block 1 (.seq (.reg [] [⟨some 10, (.move (.tmp 8)), 3, none⟩,
      ⟨some 5, (.assign (.tmp 10)), 3, none⟩])
    (.seq (.reg [] [⟨some 11, (.move (.tmp 1)), 3, none⟩,
      ⟨some 12, (.move (.tmp 0)), 32, none⟩,
      ⟨some 13, (.move (.tmp 5)), 3, none⟩,
      ⟨some 14, (.indexAddr 32 (.tmp 12) (.tmp 13)), 0, none⟩,
      ⟨some 15, (.load 3 (.tmp 14)), 3, none⟩,
      ⟨some 16, (.binOp .eql 3 (.tmp 11) (.tmp 15) 3), 4, none⟩])
    (.cond (.tmp 16)
    (.seq (.reg [] [⟨some 17, (.move (.tmp 5)), 3, none⟩,
      ⟨some 4, (.assign (.tmp 17)), 3, none⟩])
    .ret)
    .skip))))
    (.reg [] [⟨some 18, (.binOp .add 3 (.tmp 8) (.const (.int .i64 1)) 3), 3, none⟩,
      ⟨some 8, (.move (.tmp 18)), 3, none⟩])))))))
    (.seq (.reg [] [⟨some 4, (.assign (.const (.int .i64 (-1)))), 3, none⟩])
    .ret)))
theorem C49 {args : List AV} {r : AV} (hn : args.length ≤ 19) (h : vc Tryz.prog T [] A49 (Fin T [(.tmp 4)] r) ⟨envOf 0 args, []⟩) : CallP Tryz.prog 49 args r :=
  callP_of tok mixed Tryz.func49 (by kernel_rfl) (by kernel_rfl) (by kernel_rfl : Tryz.f49.ntmps = 19) (by kernel_rfl : Tryz.f49.body.bind (strip 19 (fun _ => [])) = some A49) hn h
def A48 : ACode :=
  (.seq (.reg [] [⟨some 4, (.assign (.const (.bool false))), 4, none⟩])
    (.seq (.reg [] [⟨some 5, (.move (.tmp 0)), 32, none⟩,
      ⟨some 6, (.move (.tmp 1)), 3, none⟩,
      ⟨some 7, (.call ⟨(.value (.func 49)), #[(.tmp 5), (.tmp 6)], #[32, 3]⟩), 3, none⟩,
      ⟨some 8, (.binOp .geq 3 (.tmp 7) (.const (.int .i64 0)) 3), 4, none⟩,
      ⟨some 4, (.assign (.tmp 8)), 4, none⟩])
    .ret))
theorem C48 {args : List AV} {r : AV} (hn : args.length ≤ 9) (h : vc Tryz.prog T [] A48 (Fin T [(.tmp 4)] r) ⟨envOf 0 args, []⟩) : CallP Tryz.prog 48 args r :=
  callP_of tok mixed Tryz.func48 (by kernel_rfl) (by kernel_rfl) (by kernel_rfl : Tryz.f48.ntmps = 9) (by kernel_rfl : Tryz.f48.body.bind (strip 9 (fun _ => [])) = some A48) hn h
def A46 : ACode :=
  (.seq (.reg [] [⟨some 4, (.assign (.const (.bool false))), 4, none⟩])
    (.seq (.seq (.reg [] [⟨some 6, (.move (.tmp 0)), 32, none⟩,
      ⟨some 7, (.call ⟨(.builtin .len), #[(.tmp 6)], #[32]⟩), 3, none⟩,
      ⟨some 8, (.move (.tmp 1)), 32, none⟩,
      ⟨some 9, (.call ⟨(.builtin .len), #[(.tmp 8)], #[32]⟩), 3, none⟩,
      ⟨some 10, (.binOp .neq 3 (.tmp 7) (.tmp 9) 3), 4, none⟩])
    (.cond (.tmp 10)
    (.seq (.reg [] [⟨some 4, (.assign (.const (.bool false))), 4, none⟩])
    .ret)
    .skip))
    (.seq (.seq (.reg [] [⟨some 11, (.move (.tmp 0)), 32, none⟩,
      ⟨some 12, (.call ⟨(.builtin .len), #[(.tmp 11)], #[32]⟩), 3, none⟩,
      ⟨some 13, (.move (.const (.int .i64 0))), 3, none⟩])
    (.block 0 (.loop (.seq (.reg [] [⟨some 14, (.binOp .lss 3 (.tmp 13) (.tmp 12) 3), 0, none⟩])
    (.seq (.cond (.tmp 14)
    .skip
    (.exit 0))
    (.seq (.block 1 (.seq (.reg [] [⟨some 15, (.move (.tmp 13)), 3, none⟩,
      ⟨some 5, (.assign (.tmp 15)), 3, none⟩])
    (.seq (.draw [] [⟨some 16, (.move (.tmp 0)), 32, none⟩,
      ⟨some 17, (.move (.tmp 5)), 3, none⟩,
      ⟨some 18, (.indexAddr 32 (.tmp 16) (.tmp 17)), 0, none⟩,
      ⟨some 19, (.load 3 (.tmp 18)), 3, none⟩,
      ⟨some 20, (.move (.tmp 1)), 32, none⟩,
      ⟨some 21, (.move (.tmp 5)), 3, none⟩,
      ⟨some 22, (.indexAddr 32 (.tmp 20) (.tmp 21)), 0, none⟩,
      ⟨some 23, (.load 3 (.tmp 22)), 3, none⟩,
      ⟨some 24, (.binOp .neq 3 (.tmp 19) (.tmp 23) 3), 4, none⟩] [(0, 1), (0, 4), (1, 4), (2, 4), (3, 4), (0, 5), (1, 5), (2, 5), (3, 5), (4, 5), (0, 6), (1, 6), (2, 6), (3, 6), (0, 7), (1, 7), (2, 7), (3, 7)])
    (.cond (.tmp 24)
    (.seq (.reg [] [⟨some 4, (.assign (.const (.bool false))), 4, none⟩])
    .ret)
    .skip))))
    (.reg [] [⟨some 25, (.binOp .add 3 (.tmp 13) (.const (.int .i64 1)) 3), 3, none⟩,
      ⟨some 13, (.move (.tmp 25)), 3, none⟩])))))))
    (.seq (.reg [] [⟨some 4, (.assign (.const (.bool true))), 4, none⟩])
    .ret))))
theorem C46 {args : List AV} {r : AV} (hn : args.length ≤ 26) (h : vc Tryz.prog T [] A46 (Fin T [(.tmp 4)] r) ⟨envOf 0 args, []⟩) : CallP Tryz.prog 46 args r :=
  callP_of tok mixed Tryz.func46 (by kernel_rfl) (by kernel_rfl) (by kernel_rfl : Tryz.f46.ntmps = 26) (by kernel_rfl : Tryz.f46.body.bind (strip 26 (fun _ => [])) = some A46) hn h

end Go.Proofs.YtphkchjhghdhiaaGreat
end

section
/- Functions of the cut as the value layer reads them. (written by gen.py) -/
set_option maxRecDepth 20000
namespace Go.Proofs.YtphkchjhghdhiaaGreat
open Go.Abs Go

def A38 : ACode :=
  (.seq (.reg [] [⟨some 4, (.assign (.const (.bool false))), 4, none⟩])
    (.seq (.seq (.reg [] [⟨some 5, (.assign (.const (.int .i64 0))), 3, none⟩])
    (.block 0 (.loop (.seq (.seq (.reg [] [⟨some 6, (.move (.tmp 5)), 3, none⟩,
      ⟨some 7, (.move (.tmp 0)), 32, none⟩,
      ⟨some 8, (.call ⟨(.builtin .len), #[(.tmp 7)], #[32]⟩), 3, none⟩,
      ⟨some 9, (.binOp .lss 3 (.tmp 6) (.tmp 8) 3), 4, none⟩])
    (.cond (.tmp 9)
    .skip
    (.exit 0)))
    (.seq (.block 1 (.seq (.reg [] [⟨some 12, (.move (.tmp 0)), 32, none⟩,
      ⟨some 13, (.move (.tmp 5)), 3, none⟩,
      ⟨some 14, (.indexAddr 32 (.tmp 12) (.tmp 13)), 0, none⟩,
      ⟨some 15, (.load 3 (.tmp 14)), 3, none⟩,
      ⟨some 16, (.move (.tmp 1)), 3, none⟩,
      ⟨some 17, (.binOp .eql 3 (.tmp 15) (.tmp 16) 3), 4, none⟩])
    (.cond (.tmp 17)
    (.seq (.reg [] [⟨some 4, (.assign (.const (.bool true))), 4, none⟩])
    .ret)
    .skip)))
    (.reg [] [⟨some 10, (.move (.tmp 5)), 3, none⟩,
      ⟨some 11, (.binOp .add 3 (.tmp 10) (.const (.int .i64 1)) 3), 3, none⟩,
      ⟨some 5, (.assign (.tmp 11)), 3, none⟩]))))))
    (.seq (.reg [] [⟨some 4, (.assign (.const (.bool false))), 4, none⟩])
    .ret)))
theorem C38 {args : List AV} {r : AV} (hn : args.length ≤ 18) (h : vc Tryz.prog T [] A38 (Fin T [(.tmp 4)] r) ⟨envOf 0 args, []⟩) : CallP Tryz.prog 38 args r :=
  callP_of tok mixed Tryz.func38 (by kernel_rfl) (by kernel_rfl) (by kernel_rfl : Tryz.f38.ntmps = 18) (by kernel_rfl : Tryz.f38.body.bind (strip 18 (fun _ => [])) = some A38) hn h

end Go.Proofs.YtphkchjhghdhiaaGreat
end

section
/- Functions of the cut as the value layer reads them. (written by gen.py) -/
set_option maxRecDepth 20000
namespace Go.Proofs.YtphkchjhghdhiaaGreat
open Go.Abs Go

def A22 : ACode :=
  (.seq (.reg [] [⟨some 4, (.assign (.const (.bool false))), 4, none⟩])
    (.seq (.seq (.reg [] [⟨some 6, (.move (.tmp 0)), 32, none⟩,
      ⟨some 7, (.call ⟨(.builtin .len), #[(.tmp 6)], #[32]⟩), 3, none⟩,
      ⟨some 8, (.move (.tmp 1)), 32, none⟩,
      ⟨some 9, (.call ⟨(.builtin .len), #[(.tmp 8)], #[32]⟩), 3, none⟩,
      ⟨some 10, (.binOp .neq 3 (.tmp 7) (.tmp 9) 3), 4, none⟩])
    (.cond (.tmp 10)
    (.seq (.reg [] [⟨some 4, (.assign (.const (.bool false))), 4, none⟩])
    .ret)
    .skip))
    (.seq (.seq (.reg [] [⟨some 5, (.assign (.const (.int .i64 0))), 3, none⟩])
    (.block 0 (.loop (.seq (.seq (.reg [] [⟨some 11, (.move (.tmp 5)), 3, none⟩,
      ⟨some 12, (.move (.tmp 0)), 32, none⟩,
      ⟨some 13, (.call ⟨(.builtin .len), #[(.tmp 12)], #[32]⟩), 3, none⟩,
      ⟨some 14, (.binOp .lss 3 (.tmp 11) (.tmp 13) 3), 4, none⟩])
    (.cond (.tmp 14)
    .skip
    (.exit 0)))
    (.seq (.block 1 (.seq (.draw [] [⟨some 17, (.move (.tmp 0)), 32, none⟩,
      ⟨some 18, (.move (.tmp 5)), 3, none⟩,
      ⟨some 19, (.indexAddr 32 (.tmp 17) (.tmp 18)), 0, none⟩,
      ⟨some 20, (.load 3 (.tmp 19)), 3, none⟩,
      ⟨some 21, (.move (.tmp 1)), 32, none⟩,
      ⟨some 22, (.move (.tmp 5)), 3, none⟩,
      ⟨some 23, (.indexAddr 32 (.tmp 21) (.tmp 22)), 0, none⟩,
      ⟨some 24, (.load 3 (.tmp 23)), 3, none⟩,
      ⟨some 25, (.binOp .neq 3 (.tmp 20) (.tmp 24) 3), 4, none⟩] [(0, 1), (0, 4), (1, 4), (2, 4), (3, 4), (0, 5), (1, 5), (2, 5), (3, 5), (4, 5), (0, 6), (1, 6), (2, 6), (3, 6), (0, 7), (1, 7), (2, 7), (3, 7)])
    (.cond (.tmp 25)
    (.seq (.reg [] [⟨some 4, (.assign (.const (.bool false))), 4, none⟩])
    .ret)
    .skip)))
    (.reg [] [⟨some 15, (.move (.tmp 5)), 3, none⟩,
      ⟨some 16, (.binOp .add 3 (.tmp 15) (.const (.int .i64 1)) 3), 3, none⟩,
      ⟨some 5, (.assign (.tmp 16)), 3, none⟩]))))))
    (.seq (.reg [] [⟨some 4, (.assign (.const (.bool true))), 4, none⟩])
    .ret))))
theorem C22 {args : List AV} {r : AV} (hn : args.length ≤ 26) (h : vc Tryz.prog T [] A22 (Fin T [(.tmp 4)] r) ⟨envOf 0 args, []⟩) : CallP Tryz.prog 22 args r :=
  callP_of tok mixed Tryz.func22 (by kernel_rfl) (by kernel_rfl) (by kernel_rfl : Tryz.f22.ntmps = 26) (by kernel_rfl : Tryz.f22.body.bind (strip 26 (fun _ => [])) = some A22) hn h
def A9 : ACode :=
  (.seq (.reg [] [⟨some 4, (.assign (.const (.bool false))), 4, none⟩])
    (.seq (.seq (.reg [] [⟨some 6, (.move (.tmp 0)), 22, none⟩,
      ⟨some 7, (.call ⟨(.builtin .len), #[(.tmp 6)], #[22]⟩), 3, none⟩,
      ⟨some 8, (.move (.tmp 1)), 22, none⟩,
      ⟨some 9, (.call ⟨(.builtin .len), #[(.tmp 8)], #[22]⟩), 3, none⟩,
      ⟨some 10, (.binOp .neq 3 (.tmp 7) (.tmp 9) 3), 4, none⟩])
    (.cond (.tmp 10)
    (.seq (.reg [] [⟨some 4, (.assign (.const (.bool false))), 4, none⟩])
    .ret)
    .skip))
    (.seq (.seq (.reg [] [⟨some 5, (.assign (.const (.int .i64 0))), 3, none⟩])
    (.block 0 (.loop (.seq (.seq (.reg [] [⟨some 11, (.move (.tmp 5)), 3, none⟩,
      ⟨some 12, (.move (.tmp 0)), 22, none⟩,
      ⟨some 13, (.call ⟨(.builtin .len), #[(.tmp 12)], #[22]⟩), 3, none⟩,
      ⟨some 14, (.binOp .lss 3 (.tmp 11) (.tmp 13) 3), 4, none⟩])
    (.cond (.tmp 14)
    .skip
    (.exit 0)))
    (.seq (.block 1 (.seq (.draw [] [⟨some 17, (.move (.tmp 0)), 22, none⟩,
      ⟨some 18, (.move (.tmp 5)), 3, none⟩,
      ⟨some 19, (.indexAddr 22 (.tmp 17) (.tmp 18)), 0, none⟩,
      ⟨some 20, (.load 32 (.tmp 19)), 32, none⟩,
      ⟨some 21, (.move (.tmp 1)), 22, none⟩,
      ⟨some 22, (.move (.tmp 5)), 3, none⟩,
      ⟨some 23, (.indexAddr 22 (.tmp 21) (.tmp 22)), 0, none⟩,
      ⟨some 24, (.load 32 (.tmp 23)), 32, none⟩,
      ⟨some 25, (.call ⟨(.value (.func 22)), #[(.tmp 20), (.tmp 24)], #[32, 32]⟩), 4, none⟩,
      ⟨some 26, (.unOp .not 4 (.tmp 25)), 4, none⟩] [(0, 1), (0, 4), (1, 4), (2, 4), (3, 4), (0, 5), (1, 5), (2, 5), (3, 5), (4, 5), (0, 6), (1, 6), (2, 6), (3, 6), (0, 7), (1, 7), (2, 7), (3, 7)])
    (.cond (.tmp 26)
    (.seq (.reg [] [⟨some 4, (.assign (.const (.bool false))), 4, none⟩])
    .ret)
    .skip)))
    (.reg [] [⟨some 15, (.move (.tmp 5)), 3, none⟩,
      ⟨some 16, (.binOp .add 3 (.tmp 15) (.const (.int .i64 1)) 3), 3, none⟩,
      ⟨some 5, (.assign (.tmp 16)), 3, none⟩]))))))
    (.seq (.reg [] [⟨some 4, (.assign (.const (.bool true))), 4, none⟩])
    .ret))))
theorem C9 {args : List AV} {r : AV} (hn : args.length ≤ 27) (h : vc Tryz.prog T [] A9 (Fin T [(.tmp 4)] r) ⟨envOf 0 args, []⟩) : CallP Tryz.prog 9 args r :=
  callP_of tok mixed Tryz.func9 (by kernel_rfl) (by kernel_rfl) (by kernel_rfl : Tryz.f9.ntmps = 27) (by kernel_rfl : Tryz.f9.body.bind (strip 27 (fun _ => [])) = some A9) hn h
def A44 : ACode :=
  (.seq (.reg [] [⟨some 4, (.assign (.const (.int .i64 0))), 3, none⟩])
    (.seq (.seq (.reg [] [⟨some 9, (.move (.tmp 0)), 32, none⟩,
      ⟨some 10, (.call ⟨(.builtin .len), #[(.tmp 9)], #[32]⟩), 3, none⟩,
      ⟨some 11, (.move (.const (.int .i64 0))), 3, none⟩])
    (.block 0 (.loop (.seq (.reg [] [⟨some 12, (.binOp .lss 3 (.tmp 11) (.tmp 10) 3), 0, none⟩])
    (.seq (.cond (.tmp 12)
    .skip
    (.exit 0))
    (.seq (.block 1 (.seq (.reg [] [⟨some 13, (.move (.tmp 11)), 3, none⟩,
      ⟨some 14, (.indexAddr 32 (.tmp 9) (.tmp 11)), 0, none⟩,
      ⟨some 15, (.load 3 (.tmp 14)), 3, none⟩,
      ⟨some 5, (.assign (.tmp 13)), 3, none⟩,
      ⟨some 6, (.assign (.tmp 15)), 3, none⟩])
    (.seq (.seq (.reg [] [⟨some 16, (.move (.tmp 5)), 3, none⟩,
      ⟨some 17, (.move (.tmp 1)), 32, none⟩,
      ⟨some 18, (.call ⟨(.builtin .len), #[(.tmp 17)], #[32]⟩), 3, none⟩,
      ⟨some 19, (.binOp .geq 3 (.tmp 16) (.tmp 18) 3), 4, none⟩])
    (.cond (.tmp 19)
    (.seq (.reg [] [⟨some 4, (.assign (.const (.int .i64 1))), 3, none⟩])
    .ret)
    .skip))
    (.seq (.reg [] [⟨some 20, (.move (.tmp 1)), 32, none⟩,
      ⟨some 21, (.move (.tmp 5)), 3, none⟩,
      ⟨some 22, (.indexAddr 32 (.tmp 20) (.tmp 21)), 0, none⟩,
      ⟨some 23, (.load 3 (.tmp 22)), 3, none⟩,
      ⟨some 7, (.assign (.tmp 23)), 3, none⟩])
    (.seq (.reg [] [⟨some 24, (.move (.tmp 6)), 3, none⟩,
      ⟨some 25, (.move (.tmp 7)), 3, none⟩,
      ⟨some 26, (.call ⟨(.value (.func 58)), #[(.tmp 24), (.tmp 25)], #[3, 3]⟩), 3, none⟩,
      ⟨some 8, (.assign (.tmp 26)), 3, none⟩])
    (.seq (.reg [] [⟨some 27, (.move (.tmp 8)), 3, none⟩,
      ⟨some 28, (.binOp .neq 3 (.tmp 27) (.const (.int .i64 0)) 3), 4, none⟩])
    (.cond (.tmp 28)
    (.seq (.reg [] [⟨some 29, (.move (.tmp 8)), 3, none⟩,
      ⟨some 4, (.assign (.tmp 29)), 3, none⟩])
    .ret)
    .skip)))))))
    (.reg [] [⟨some 30, (.binOp .add 3 (.tmp 11) (.const (.int .i64 1)) 3), 3, none⟩,
      ⟨some 11, (.move (.tmp 30)), 3, none⟩])))))))
    (.seq (.seq (.reg [] [⟨some 31, (.move (.tmp 0)), 32, none⟩,
      ⟨some 32, (.call ⟨(.builtin .len), #[(.tmp 31)], #[32]⟩), 3, none⟩,
      ⟨some 33, (.move (.tmp 1)), 32, none⟩,
      ⟨some 34, (.call ⟨(.builtin .len), #[(.tmp 33)], #[32]⟩), 3, none⟩,
      ⟨some 35, (.binOp .lss 3 (.tmp 32) (.tmp 34) 3), 4, none⟩])
    (.cond (.tmp 35)
    (.seq (.reg [] [⟨some 4, (.assign (.const (.int .i64 (-1)))), 3, none⟩])
    .ret)
    .skip))
    (.seq (.reg [] [⟨some 4, (.assign (.const (.int .i64 0))), 3, none⟩])
    .ret))))
theorem C44 {args : List AV} {r : AV} (hn : args.length ≤ 36) (h : vc Tryz.prog T [] A44 (Fin T [(.tmp 4)] r) ⟨envOf 0 args, []⟩) : CallP Tryz.prog 44 args r :=
  callP_of tok mixed Tryz.func44 (by kernel_rfl) (by kernel_rfl) (by kernel_rfl : Tryz.f44.ntmps = 36) (by kernel_rfl : Tryz.f44.body.bind (strip 36 (fun _ => [])) = some A44) hn h
def A45 : ACode :=
  (.seq (.reg [] [⟨some 4, (.assign (.const (.slice none 0 0))), 22, none⟩])
    (.seq (.seq (.reg [] [⟨some 8, (.move (.tmp 0)), 22, none⟩,
      ⟨some 9, (.call ⟨(.builtin .len), #[(.tmp 8)], #[22]⟩), 3, none⟩,
      ⟨some 10, (.binOp .lss 3 (.tmp 9) (.const (.int .i64 2)) 3), 4, none⟩])
    (.cond (.tmp 10)
    (.seq (.reg [] [⟨some 11, (.move (.tmp 0)), 22, none⟩,
      ⟨some 4, (.assign (.tmp 11)), 22, none⟩])
    .ret)
    .skip))
    (.seq (.seq (.reg [] [⟨some 5, (.assign (.const (.int .i64 1))), 3, none⟩])
    (.block 0 (.loop (.seq (.seq (.reg [] [⟨some 12, (.move (.tmp 5)), 3, none⟩,
      ⟨some 13, (.move (.tmp 0)), 22, none⟩,
      ⟨some 14, (.call ⟨(.builtin .len), #[(.tmp 13)], #[22]⟩), 3, none⟩,
      ⟨some 15, (.binOp .lss 3 (.tmp 12) (.tmp 14) 3), 4, none⟩])
    (.cond (.tmp 15)
    .skip
    (.exit 0)))
    (.seq (.block 1 (.seq (.draw [] [⟨some 18, (.move (.tmp 1)), 41, none⟩,
      ⟨some 19, (.move (.tmp 0)), 22, none⟩,
      ⟨some 20, (.move (.tmp 5)), 3, none⟩,
      ⟨some 21, (.indexAddr 22 (.tmp 19) (.tmp 20)), 0, none⟩,
      ⟨some 22, (.load 32 (.tmp 21)), 32, none⟩,
      ⟨some 23, (.move (.tmp 0)), 22, none⟩,
      ⟨some 24, (.move (.tmp 5)), 3, none⟩,
      ⟨some 25, (.binOp .sub 3 (.tmp 24) (.const (.int .i64 1)) 3), 3, none⟩,
      ⟨some 26, (.indexAddr 22 (.tmp 23) (.tmp 25)), 0, none⟩,
      ⟨some 27, (.load 32 (.tmp 26)), 32, none⟩,
      ⟨some 28, (.call ⟨(.value (.tmp 18)), #[(.tmp 22), (.tmp 27)], #[32, 32]⟩), 4, none⟩] [(0, 1), (0, 2), (1, 2), (0, 3), (0, 4), (0, 5), (1, 5), (2, 5), (3, 5), (4, 5), (0, 6), (1, 6), (2, 6), (3, 6), (4, 6), (5, 6), (0, 7), (1, 7), (2, 7), (3, 7), (4, 7), (5, 7), (0, 8), (1, 8), (2, 8), (3, 8), (4, 8), (0, 9), (1, 9), (2, 9), (3, 9), (4, 9)])
    (.cond (.tmp 28)
    (.seq (.reg [] [⟨some 29, (.move (.tmp 0)), 22, none⟩,
      ⟨some 30, (.move (.tmp 5)), 3, none⟩,
      ⟨some 31, (.slice 22 (.tmp 29) (some (.tmp 30)) none none), 22, none⟩,
      ⟨some 6, (.assign (.tmp 31)), 22, none⟩])
    (.seq (.seq (.reg [] [⟨some 7, (.assign (.const (.int .i64 1))), 3, none⟩])
    (.block 2 (.loop (.seq (.seq (.reg [] [⟨some 32, (.move (.tmp 7)), 3, none⟩,
      ⟨some 33, (.move (.tmp 6)), 22, none⟩,
      ⟨some 34, (.call ⟨(.builtin .len), #[(.tmp 33)], #[22]⟩), 3, none⟩,
      ⟨some 35, (.binOp .lss 3 (.tmp 32) (.tmp 34) 3), 4, none⟩])
    (.cond (.tmp 35)
    .skip
    (.exit 2)))
    (.seq (.block 3 (.seq (.draw [] [⟨some 38, (.move (.tmp 1)), 41, none⟩,
      ⟨some 39, (.move (.tmp 6)), 22, none⟩,
      ⟨some 40, (.move (.tmp 7)), 3, none⟩,
      ⟨some 41, (.indexAddr 22 (.tmp 39) (.tmp 40)), 0, none⟩,
      ⟨some 42, (.load 32 (.tmp 41)), 32, none⟩,
      ⟨some 43, (.move (.tmp 6)), 22, none⟩,
      ⟨some 44, (.move (.tmp 7)), 3, none⟩,
      ⟨some 45, (.binOp .sub 3 (.tmp 44) (.const (.int .i64 1)) 3), 3, none⟩,
      ⟨some 46, (.indexAddr 22 (.tmp 43) (.tmp 45)), 0, none⟩,
      ⟨some 47, (.load 32 (.tmp 46)), 32, none⟩,
      ⟨some 48, (.call ⟨(.value (.tmp 38)), #[(.tmp 42), (.tmp 47)], #[32, 32]⟩), 4, none⟩,
      ⟨some 49, (.unOp .not 4 (.tmp 48)), 4, none⟩] [(0, 1), (0, 2), (1, 2), (0, 3), (0, 4), (0, 5), (1, 5), (2, 5), (3, 5), (4, 5), (0, 6), (1, 6), (2, 6), (3, 6), (4, 6), (5, 6), (0, 7), (1, 7), (2, 7), (3, 7), (4, 7), (5, 7), (0, 8), (1, 8), (2, 8), (3, 8), (4, 8), (0, 9), (1, 9), (2, 9), (3, 9), (4, 9)])
    (.cond (.tmp 49)
    (.seq (.reg [] [⟨some 50, (.move (.tmp 0)), 22, none⟩,
      ⟨some 51, (.move (.tmp 5)), 3, none⟩,
      ⟨some 52, (.move (.tmp 6)), 22, none⟩,
      ⟨some 53, (.move (.tmp 7)), 3, none⟩,
      ⟨some 54, (.indexAddr 22 (.tmp 52) (.tmp 53)), 0, none⟩,
      ⟨some 55, (.load 32 (.tmp 54)), 32, none⟩,
      ⟨some 56, (.indexAddr 22 (.tmp 50) (.tmp 51)), 0, none⟩,
      ⟨none, (.store 32 (.tmp 56) (.tmp 55)), 0, none⟩])
    (.reg [] [⟨some 57, (.move (.tmp 5)), 3, none⟩,
      ⟨some 58, (.binOp .add 3 (.tmp 57) (.const (.int .i64 1)) 3), 3, none⟩,
      ⟨some 5, (.assign (.tmp 58)), 3, none⟩]))
    .skip)))
    (.reg [] [⟨some 36, (.move (.tmp 7)), 3, none⟩,
      ⟨some 37, (.binOp .add 3 (.tmp 36) (.const (.int .i64 1)) 3), 3, none⟩,
      ⟨some 7, (.assign (.tmp 37)), 3, none⟩]))))))
    (.seq (.reg [] [⟨some 59, (.move (.tmp 0)), 22, none⟩,
      ⟨some 60, (.move (.tmp 5)), 3, none⟩,
      ⟨some 61, (.slice 22 (.tmp 59) (some (.tmp 60)) none none), 22, none⟩,
      ⟨none, (.call ⟨(.builtin .clear), #[(.tmp 61)], #[22]⟩), 0, none⟩])
    (.seq (.reg [] [⟨some 62, (.move (.tmp 0)), 22, none⟩,
      ⟨some 63, (.move (.tmp 5)), 3, none⟩,
      ⟨some 64, (.slice 22 (.tmp 62) none (some (.tmp 63)) none), 22, none⟩,
      ⟨some 4, (.assign (.tmp 64)), 22, none⟩])
    .ret))))
    .skip)))
    (.reg [] [⟨some 16, (.move (.tmp 5)), 3, none⟩,
      ⟨some 17, (.binOp .add 3 (.tmp 16) (.const (.int .i64 1)) 3), 3, none⟩,
      ⟨some 5, (.assign (.tmp 17)), 3, none⟩]))))))
    (.seq (.reg [] [⟨some 65, (.move (.tmp 0)), 22, none⟩,
      ⟨some 4, (.assign (.tmp 65)), 22, none⟩])
    .ret))))
theorem CL45 {pre suf : List AV} {sz : Nat} {els els' : List AV} {r : LRet} (hn : (pre ++ .sl lid 0 0 els.length :: suf).length ≤ 66) (h : vc Tryz.prog T [] A45 (FinL T [(.tmp 4)] sz r els') ⟨envOf 0 (pre ++ .sl lid 0 0 els.length :: suf), [(lid, some ⟨sz, els, 0, false⟩)]⟩) : CallL Tryz.prog 45 pre sz els suf r els' :=
  callL_of tok mixed Tryz.func45 (by kernel_rfl) (by kernel_rfl) (by kernel_rfl : Tryz.f45.ntmps = 66) (by kernel_rfl : Tryz.f45.body.bind (strip 66 (fun _ => [])) = some A45) hn h
def A58 : ACode :=
  (.seq (.reg [] [⟨some 4, (.assign (.const (.int .i64 0))), 3, none⟩])
    (.seq (.reg [] [⟨some 7, (.move (.tmp 0)), 3, none⟩,
      ⟨some 8, (.call ⟨(.value (.func 82)), #[(.tmp 7)], #[3]⟩), 4, none⟩,
      ⟨some 5, (.assign (.tmp 8)), 4, none⟩])
    (.seq (.reg [] [⟨some 9, (.move (.tmp 1)), 3, none⟩,
      ⟨some 10, (.call ⟨(.value (.func 82)), #[(.tmp 9)], #[3]⟩), 4, none⟩,
      ⟨some 6, (.assign (.tmp 10)), 4, none⟩])
    (.seq (.seq (.reg [] [⟨some 11, (.move (.tmp 5)), 4, none⟩])
    (.cond (.tmp 11)
    (.seq (.seq (.reg [] [⟨some 12, (.move (.tmp 6)), 4, none⟩])
    (.cond (.tmp 12)
    (.seq (.reg [] [⟨some 4, (.assign (.const (.int .i64 0))), 3, none⟩])
    .ret)
    .skip))
    (.seq (.reg [] [⟨some 4, (.assign (.const (.int .i64 (-1)))), 3, none⟩])
    .ret))
    .skip))
    (.seq (.seq (.reg [] [⟨some 13, (.move (.tmp 6)), 4, none⟩])
    (.cond (.tmp 13)
    (.seq (.reg [] [⟨some 4, (.assign (.const (.int .i64 1))), 3, none⟩])
    .ret)
    .skip))
    (.seq (.seq (.reg [] [⟨some 14, (.move (.tmp 0)), 3, none⟩,
      ⟨some 15, (.move (.tmp 1)), 3, none⟩,
      ⟨some 16, (.binOp .lss 3 (.tmp 14) (.tmp 15) 3), 4, none⟩])
    (.cond (.tmp 16)
    (.seq (.reg [] [⟨some 4, (.assign (.const (.int .i64 (-1)))), 3, none⟩])
    .ret)
    .skip))
    (.seq (.seq (.reg [] [⟨some 17, (.move (.tmp 0)), 3, none⟩,
      ⟨some 18, (.move (.tmp 1)), 3, none⟩,
      ⟨some 19, (.binOp .gtr 3 (.tmp 17) (.tmp 18) 3), 4, none⟩])
    (.cond (.tmp 19)
    (.seq (.reg [] [⟨some 4, (.assign (.const (.int .i64 1))), 3, none⟩])
    .ret)
    .skip))
    (.seq (.reg [] [⟨some 4, (.assign (.const (.int .i64 0))), 3, none⟩])
    .ret))))))))
theorem C58 {args : List AV} {r : AV} (hn : args.length ≤ 20) (h : vc Tryz.prog T [] A58 (Fin T [(.tmp 4)] r) ⟨envOf 0 args, []⟩) : CallP Tryz.prog 58 args r :=
  callP_of tok mixed Tryz.func58 (by kernel_rfl) (by kernel_rfl) (by kernel_rfl : Tryz.f58.ntmps = 20) (by kernel_rfl : Tryz.f58.body.bind (strip 20 (fun _ => [])) = some A58) hn h
def A82 : ACode :=
  (.seq (.reg [] [⟨some 2, (.assign (.const (.bool false))), 4, none⟩])
    (.seq (.reg [] [⟨some 3, (.move (.tmp 0)), 3, none⟩,
      ⟨some 4, (.move (.tmp 0)), 3, none⟩,
      ⟨some 5, (.binOp .neq 3 (.tmp 3) (.tmp 4) 3), 4, none⟩,
      ⟨some 2, (.assign (.tmp 5)), 4, none⟩])
    .ret))
theorem C82 {args : List AV} {r : AV} (hn : args.length ≤ 6) (h : vc Tryz.prog T [] A82 (Fin T [(.tmp 2)] r) ⟨envOf 0 args, []⟩) : CallP Tryz.prog 82 args r :=
  callP_of tok mixed Tryz.func82 (by kernel_rfl) (by kernel_rfl) (by kernel_rfl : Tryz.f82.ntmps = 6) (by kernel_rfl : Tryz.f82.body.bind (strip 6 (fun _ => [])) = some A82) hn h

end Go.Proofs.YtphkchjhghdhiaaGreat
end

section
/- Functions of the cut as the value layer reads them. (written by gen.py) -/
set_option maxRecDepth 20000
namespace Go.Proofs.YtphkchjhghdhiaaGreat
open Go.Abs Go

def A54 : ACode :=
  (.seq (.reg [] [⟨some 4, (.assign (.const (.slice none 0 0))), 32, none⟩])
    (.seq (.seq (.reg [] [⟨some 9, (.move (.tmp 1)), 3, none⟩,
      ⟨some 10, (.binOp .lss 3 (.tmp 9) (.const (.int .i64 0)) 3), 4, none⟩])
    (.cond (.tmp 10)
    (.reg [] [⟨some 11, (.makeInterface 9 (.const (.string ⟨#[99, 97, 110, 110, 111, 116, 32, 98, 101, 32, 110, 101, 103, 97, 116, 105, 118, 101]⟩))), 20, none⟩,
      ⟨none, (.panic (.tmp 11)), 0, none⟩])
    .skip))
    (.seq (.reg [] [⟨some 13, (.move (.tmp 0)), 32, none⟩,
      ⟨some 14, (.call ⟨(.builtin .len), #[(.tmp 13)], #[32]⟩), 3, none⟩,
      ⟨some 15, (.convert 3 71 (.tmp 14)), 71, none⟩,
      ⟨some 16, (.move (.tmp 1)), 3, none⟩,
      ⟨some 17, (.convert 3 71 (.tmp 16)), 71, none⟩,
      ⟨some 18, (.call ⟨(.value (.func 71)), #[(.tmp 15), (.tmp 17)], #[71, 71]⟩), 94, none⟩,
      ⟨some 12, (.move (.tmp 18)), 94, none⟩,
      ⟨some 19, (.extract (.tmp 12) 0), 71, none⟩,
      ⟨some 20, (.extract (.tmp 12) 1), 71, none⟩,
      ⟨some 5, (.assign (.tmp 19)), 71, none⟩,
      ⟨some 6, (.assign (.tmp 20)), 71, none⟩])
    (.seq (.seq (.reg [] [⟨some 21, (.move (.tmp 5)), 71, none⟩,
      ⟨some 22, (.binOp .gtr 71 (.tmp 21) (.const (.int .u64 0)) 71), 4, none⟩,
      ⟨some 23, (.move (.tmp 22)), 4, none⟩,
      ⟨some 24, (.move (.tmp 6)), 71, some (23, false)⟩,
      ⟨some 25, (.binOp .gtr 71 (.tmp 24) (.const (.int .u64 9223372036854775807)) 71), 4, some (23, false)⟩,
      ⟨some 26, (.pick (.tmp 23) (.const (.bool true)) (.tmp 25)), 4, none⟩])
    (.cond (.tmp 26)
    (.reg [] [⟨some 27, (.makeInterface 9 (.const (.string ⟨#[116, 104, 101, 32, 114, 101, 115, 117, 108, 116, 32, 111, 102, 32, 40, 108, 101, 110, 40, 120, 41, 32, 42, 32, 99, 111, 117, 110, 116, 41, 32, 111, 118, 101, 114, 102, 108, 111, 119, 115]⟩))), 20, none⟩,
      ⟨none, (.panic (.tmp 27)), 0, none⟩])
    .skip))
    (.seq (.reg [] [⟨some 28, (.move (.tmp 6)), 71, none⟩,
      ⟨some 29, (.convert 71 3 (.tmp 28)), 3, none⟩,
      ⟨some 30, (.makeSlice 32 (.tmp 29) (.tmp 29)), 32, none⟩,
      ⟨some 7, (.assign (.tmp 30)), 32, none⟩])
    (.seq (.reg [] [⟨some 31, (.move (.tmp 7)), 32, none⟩,
      ⟨some 32, (.move (.tmp 0)), 32, none⟩,
      ⟨some 33, (.call ⟨(.builtin .copy), #[(.tmp 31), (.tmp 32)], #[32, 32]⟩), 3, none⟩,
      ⟨some 8, (.assign (.tmp 33)), 3, none⟩])
    (.seq (.block 0 (.loop (.seq (.seq (.reg [] [⟨some 34, (.move (.tmp 8)), 3, none⟩,
      ⟨some 35, (.move (.tmp 7)), 32, none⟩,
      ⟨some 36, (.call ⟨(.builtin .len), #[(.tmp 35)], #[32]⟩), 3, none⟩,
      ⟨some 37, (.binOp .lss 3 (.tmp 34) (.tmp 36) 3), 4, none⟩])
    (.cond (.tmp 37)
    .skip
    (.exit 0)))
    (.block 1 (.draw [] [⟨some 38, (.move (.tmp 8)), 3, none⟩,
      ⟨some 39, (.move (.tmp 7)), 32, none⟩,
      ⟨some 40, (.move (.tmp 8)), 3, none⟩,
      ⟨some 41, (.slice 32 (.tmp 39) (some (.tmp 40)) none none), 32, none⟩,
      ⟨some 42, (.move (.tmp 7)), 32, none⟩,
      ⟨some 43, (.move (.tmp 8)), 3, none⟩,
      ⟨some 44, (.slice 32 (.tmp 42) none (some (.tmp 43)) none), 32, none⟩,
      ⟨some 45, (.call ⟨(.builtin .copy), #[(.tmp 41), (.tmp 44)], #[32, 32]⟩), 3, none⟩,
      ⟨some 46, (.binOp .add 3 (.tmp 38) (.tmp 45) 3), 3, none⟩,
      ⟨some 8, (.assign (.tmp 46)), 3, none⟩] [(0, 1), (0, 2), (1, 2), (0, 3), (0, 4), (1, 4), (2, 4), (3, 4), (0, 5), (1, 5), (2, 5), (3, 5), (4, 5), (0, 6), (1, 6), (2, 6), (3, 6), (0, 7)])))))
    (.seq (.reg [] [⟨some 47, (.move (.tmp 7)), 32, none⟩,
      ⟨some 4, (.assign (.tmp 47)), 32, none⟩])
    .ret))))))))
theorem CO54 {args : List AV} {sz : Nat} {els : List AV} (hn : args.length ≤ 48) (h : vc Tryz.prog T [] A54 (FinO [(.tmp 4)] sz els) ⟨envOf 0 args, []⟩) : CallO Tryz.prog 54 args sz els :=
  callO_of tok mixed Tryz.func54 (by kernel_rfl) (by kernel_rfl) (by kernel_rfl : Tryz.f54.ntmps = 48) (by kernel_rfl : Tryz.f54.body.bind (strip 48 (fun _ => [])) = some A54) hn h

end Go.Proofs.YtphkchjhghdhiaaGreat
end

section
/- Functions of the cut as the value layer reads them. (written by gen.py) -/
set_option maxRecDepth 20000
namespace Go.Proofs.YtphkchjhghdhiaaGreat
open Go.Abs Go

def A71 : ACode :=
  (.seq (.reg [] [⟨some 4, (.assign (.const (.int .u64 0))), 71, none⟩,
      ⟨some 5, (.assign (.const (.int .u64 0))), 71, none⟩])
    (.seq (.cond (.const (.bool false))
    (.seq (.reg [] [⟨some 11, (.move (.tmp 0)), 71, none⟩,
      ⟨some 12, (.convert 71 90 (.tmp 11)), 90, none⟩,
      ⟨some 13, (.move (.tmp 1)), 71, none⟩,
      ⟨some 14, (.convert 71 90 (.tmp 13)), 90, none⟩,
      ⟨some 15, (.call ⟨(.value (.func 88)), #[(.tmp 12), (.tmp 14)], #[90, 90]⟩), 109, none⟩,
      ⟨some 10, (.move (.tmp 15)), 109, none⟩,
      ⟨some 16, (.extract (.tmp 10) 0), 90, none⟩,
      ⟨some 17, (.extract (.tmp 10) 1), 90, none⟩,
      ⟨some 6, (.assign (.tmp 16)), 90, none⟩,
      ⟨some 7, (.assign (.tmp 17)), 90, none⟩])
    (.seq (.reg [] [⟨some 18, (.move (.tmp 6)), 90, none⟩,
      ⟨some 19, (.convert 90 71 (.tmp 18)), 71, none⟩,
      ⟨some 20, (.move (.tmp 7)), 90, none⟩,
      ⟨some 21, (.convert 90 71 (.tmp 20)), 71, none⟩,
      ⟨some 4, (.assign (.tmp 19)), 71, none⟩,
      ⟨some 5, (.assign (.tmp 21)), 71, none⟩])
    .ret))
    .skip)
    (.seq (.reg [] [⟨some 23, (.move (.tmp 0)), 71, none⟩,
      ⟨some 24, (.move (.tmp 1)), 71, none⟩,
      ⟨some 25, (.call ⟨(.value (.func 89)), #[(.tmp 23), (.tmp 24)], #[92, 92]⟩), 111, none⟩,
      ⟨some 22, (.move (.tmp 25)), 111, none⟩,
      ⟨some 26, (.extract (.tmp 22) 0), 92, none⟩,
      ⟨some 27, (.extract (.tmp 22) 1), 92, none⟩,
      ⟨some 8, (.assign (.tmp 26)), 92, none⟩,
      ⟨some 9, (.assign (.tmp 27)), 92, none⟩])
    (.seq (.reg [] [⟨some 28, (.move (.tmp 8)), 92, none⟩,
      ⟨some 29, (.move (.tmp 9)), 92, none⟩,
      ⟨some 4, (.assign (.tmp 28)), 71, none⟩,
      ⟨some 5, (.assign (.tmp 29)), 71, none⟩])
    .ret))))
theorem C71 {args : List AV} {r : AV} (hn : args.length ≤ 30) (h : vc Tryz.prog T [] A71 (Fin T [(.tmp 4), (.tmp 5)] r) ⟨envOf 0 args, []⟩) : CallP Tryz.prog 71 args r :=
  callP_of tok mixed Tryz.func71 (by kernel_rfl) (by kernel_rfl) (by kernel_rfl : Tryz.f71.ntmps = 30) (by kernel_rfl : Tryz.f71.body.bind (strip 30 (fun _ => [])) = some A71) hn h
def A89 : ACode :=
  (.seq (.reg [] [⟨some 4, (.assign (.const (.int .u64 0))), 92, none⟩,
      ⟨some 5, (.assign (.const (.int .u64 0))), 92, none⟩])
    (.seq (.reg [] [⟨some 14, (.move (.tmp 0)), 92, none⟩,
      ⟨some 15, (.binOp .and 92 (.tmp 14) (.const (.int .u64 4294967295)) 92), 92, none⟩,
      ⟨some 6, (.assign (.tmp 15)), 92, none⟩])
    (.seq (.reg [] [⟨some 16, (.move (.tmp 0)), 92, none⟩,
      ⟨some 17, (.binOp .shr 92 (.tmp 16) (.const (.int .u64 32)) 71), 92, none⟩,
      ⟨some 7, (.assign (.tmp 17)), 92, none⟩])
    (.seq (.reg [] [⟨some 18, (.move (.tmp 1)), 92, none⟩,
      ⟨some 19, (.binOp .and 92 (.tmp 18) (.const (.int .u64 4294967295)) 92), 92, none⟩,
      ⟨some 8, (.assign (.tmp 19)), 92, none⟩])
    (.seq (.reg [] [⟨some 20, (.move (.tmp 1)), 92, none⟩,
      ⟨some 21, (.binOp .shr 92 (.tmp 20) (.const (.int .u64 32)) 71), 92, none⟩,
      ⟨some 9, (.assign (.tmp 21)), 92, none⟩])
    (.seq (.reg [] [⟨some 22, (.move (.tmp 6)), 92, none⟩,
      ⟨some 23, (.move (.tmp 8)), 92, none⟩,
      ⟨some 24, (.binOp .mul 92 (.tmp 22) (.tmp 23) 92), 92, none⟩,
      ⟨some 10, (.assign (.tmp 24)), 92, none⟩])
    (.seq (.reg [] [⟨some 25, (.move (.tmp 7)), 92, none⟩,
      ⟨some 26, (.move (.tmp 8)), 92, none⟩,
      ⟨some 27, (.binOp .mul 92 (.tmp 25) (.tmp 26) 92), 92, none⟩,
      ⟨some 28, (.move (.tmp 10)), 92, none⟩,
      ⟨some 29, (.binOp .shr 92 (.tmp 28) (.const (.int .u64 32)) 71), 92, none⟩,
      ⟨some 30, (.binOp .add 92 (.tmp 27) (.tmp 29) 92), 92, none⟩,
      ⟨some 11, (.assign (.tmp 30)), 92, none⟩])
    (.seq (.reg [] [⟨some 31, (.move (.tmp 11)), 92, none⟩,
      ⟨some 32, (.binOp .and 92 (.tmp 31) (.const (.int .u64 4294967295)) 92), 92, none⟩,
      ⟨some 12, (.assign (.tmp 32)), 92, none⟩])
    (.seq (.reg [] [⟨some 33, (.move (.tmp 11)), 92, none⟩,
      ⟨some 34, (.binOp .shr 92 (.tmp 33) (.const (.int .u64 32)) 71), 92, none⟩,
      ⟨some 13, (.assign (.tmp 34)), 92, none⟩])
    (.seq (.reg [] [⟨some 35, (.move (.tmp 12)), 92, none⟩,
      ⟨some 36, (.move (.tmp 6)), 92, none⟩,
      ⟨some 37, (.move (.tmp 9)), 92, none⟩,
      ⟨some 38, (.binOp .mul 92 (.tmp 36) (.tmp 37) 92), 92, none⟩,
      ⟨some 39, (.binOp .add 92 (.tmp 35) (.tmp 38) 92), 92, none⟩,
      ⟨some 12, (.assign (.tmp 39)), 92, none⟩])
    (.seq (.reg [] [⟨some 40, (.move (.tmp 7)), 92, none⟩,
      ⟨some 41, (.move (.tmp 9)), 92, none⟩,
      ⟨some 42, (.binOp .mul 92 (.tmp 40) (.tmp 41) 92), 92, none⟩,
      ⟨some 43, (.move (.tmp 13)), 92, none⟩,
      ⟨some 44, (.binOp .add 92 (.tmp 42) (.tmp 43) 92), 92, none⟩,
      ⟨some 45, (.move (.tmp 12)), 92, none⟩,
      ⟨some 46, (.binOp .shr 92 (.tmp 45) (.const (.int .u64 32)) 71), 92, none⟩,
      ⟨some 47, (.binOp .add 92 (.tmp 44) (.tmp 46) 92), 92, none⟩,
      ⟨some 4, (.assign (.tmp 47)), 92, none⟩])
    (.seq (.reg [] [⟨some 48, (.move (.tmp 0)), 92, none⟩,
      ⟨some 49, (.move (.tmp 1)), 92, none⟩,
      ⟨some 50, (.binOp .mul 92 (.tmp 48) (.tmp 49) 92), 92, none⟩,
      ⟨some 5, (.assign (.tmp 50)), 92, none⟩])
    .ret))))))))))))
theorem C89 {args : List AV} {r : AV} (hn : args.length ≤ 51) (h : vc Tryz.prog T [] A89 (Fin T [(.tmp 4), (.tmp 5)] r) ⟨envOf 0 args, []⟩) : CallP Tryz.prog 89 args r :=
  callP_of tok mixed Tryz.func89 (by kernel_rfl) (by kernel_rfl) (by kernel_rfl : Tryz.f89.ntmps = 51) (by kernel_rfl : Tryz.f89.body.bind (strip 51 (fun _ => [])) = some A89) hn h

end Go.Proofs.YtphkchjhghdhiaaGreat
end

section
/- Functions of the cut as the value layer reads them. (written by gen.py) -/
set_option maxRecDepth 20000
namespace Go.Proofs.YtphkchjhghdhiaaGreat
open Go.Abs Go

def A32 : ACode :=
  (.seq (.reg [] [⟨some 2, (.assign (.const (.slice none 0 0))), 32, none⟩])
    (.seq (.seq (.reg [] [⟨some 6, (.move (.tmp 0)), 32, none⟩,
      ⟨some 7, (.call ⟨(.builtin .len), #[(.tmp 6)], #[32]⟩), 3, none⟩,
      ⟨some 8, (.binOp .lss 3 (.tmp 7) (.const (.int .i64 2)) 3), 4, none⟩])
    (.cond (.tmp 8)
    (.seq (.reg [] [⟨some 9, (.move (.tmp 0)), 32, none⟩,
      ⟨some 2, (.assign (.tmp 9)), 32, none⟩])
    .ret)
    .skip))
    (.seq (.seq (.reg [] [⟨some 3, (.assign (.const (.int .i64 1))), 3, none⟩])
    (.block 0 (.loop (.seq (.seq (.reg [] [⟨some 10, (.move (.tmp 3)), 3, none⟩,
      ⟨some 11, (.move (.tmp 0)), 32, none⟩,
      ⟨some 12, (.call ⟨(.builtin .len), #[(.tmp 11)], #[32]⟩), 3, none⟩,
      ⟨some 13, (.binOp .lss 3 (.tmp 10) (.tmp 12) 3), 4, none⟩])
    (.cond (.tmp 13)
    .skip
    (.exit 0)))
    (.seq (.block 1 (.seq (.draw [] [⟨some 16, (.move (.tmp 0)), 32, none⟩,
      ⟨some 17, (.move (.tmp 3)), 3, none⟩,
      ⟨some 18, (.indexAddr 32 (.tmp 16) (.tmp 17)), 0, none⟩,
      ⟨some 19, (.load 3 (.tmp 18)), 3, none⟩,
      ⟨some 20, (.move (.tmp 0)), 32, none⟩,
      ⟨some 21, (.move (.tmp 3)), 3, none⟩,
      ⟨some 22, (.binOp .sub 3 (.tmp 21) (.const (.int .i64 1)) 3), 3, none⟩,
      ⟨some 23, (.indexAddr 32 (.tmp 20) (.tmp 22)), 0, none⟩,
      ⟨some 24, (.load 3 (.tmp 23)), 3, none⟩,
      ⟨some 25, (.binOp .eql 3 (.tmp 19) (.tmp 24) 3), 4, none⟩] [(0, 1), (0, 4), (1, 4), (2, 4), (3, 4), (0, 5), (1, 5), (2, 5), (3, 5), (4, 5), (0, 6), (1, 6), (2, 6), (3, 6), (4, 6), (0, 7), (1, 7), (2, 7), (3, 7), (0, 8), (1, 8), (2, 8), (3, 8)])
    (.cond (.tmp 25)
    (.seq (.reg [] [⟨some 26, (.move (.tmp 0)), 32, none⟩,
      ⟨some 27, (.move (.tmp 3)), 3, none⟩,
      ⟨some 28, (.slice 32 (.tmp 26) (some (.tmp 27)) none none), 32, none⟩,
      ⟨some 4, (.assign (.tmp 28)), 32, none⟩])
    (.seq (.seq (.reg [] [⟨some 5, (.assign (.const (.int .i64 1))), 3, none⟩])
    (.block 2 (.loop (.seq (.seq (.reg [] [⟨some 29, (.move (.tmp 5)), 3, none⟩,
      ⟨some 30, (.move (.tmp 4)), 32, none⟩,
      ⟨some 31, (.call ⟨(.builtin .len), #[(.tmp 30)], #[32]⟩), 3, none⟩,
      ⟨some 32, (.binOp .lss 3 (.tmp 29) (.tmp 31) 3), 4, none⟩])
    (.cond (.tmp 32)
    .skip
    (.exit 2)))
    (.seq (.block 3 (.seq (.draw [] [⟨some 35, (.move (.tmp 4)), 32, none⟩,
      ⟨some 36, (.move (.tmp 5)), 3, none⟩,
      ⟨some 37, (.indexAddr 32 (.tmp 35) (.tmp 36)), 0, none⟩,
      ⟨some 38, (.load 3 (.tmp 37)), 3, none⟩,
      ⟨some 39, (.move (.tmp 4)), 32, none⟩,
      ⟨some 40, (.move (.tmp 5)), 3, none⟩,
      ⟨some 41, (.binOp .sub 3 (.tmp 40) (.const (.int .i64 1)) 3), 3, none⟩,
      ⟨some 42, (.indexAddr 32 (.tmp 39) (.tmp 41)), 0, none⟩,
      ⟨some 43, (.load 3 (.tmp 42)), 3, none⟩,
      ⟨some 44, (.binOp .neq 3 (.tmp 38) (.tmp 43) 3), 4, none⟩] [(0, 1), (0, 4), (1, 4), (2, 4), (3, 4), (0, 5), (1, 5), (2, 5), (3, 5), (4, 5), (0, 6), (1, 6), (2, 6), (3, 6), (4, 6), (0, 7), (1, 7), (2, 7), (3, 7), (0, 8), (1, 8), (2, 8), (3, 8)])
    (.cond (.tmp 44)
    (.seq (.reg [] [⟨some 45, (.move (.tmp 0)), 32, none⟩,
      ⟨some 46, (.move (.tmp 3)), 3, none⟩,
      ⟨some 47, (.move (.tmp 4)), 32, none⟩,
      ⟨some 48, (.move (.tmp 5)), 3, none⟩,
      ⟨some 49, (.indexAddr 32 (.tmp 47) (.tmp 48)), 0, none⟩,
      ⟨some 50, (.load 3 (.tmp 49)), 3, none⟩,
      ⟨some 51, (.indexAddr 32 (.tmp 45) (.tmp 46)), 0, none⟩,
      ⟨none, (.store 3 (.tmp 51) (.tmp 50)), 0, none⟩])
    (.reg [] [⟨some 52, (.move (.tmp 3)), 3, none⟩,
      ⟨some 53, (.binOp .add 3 (.tmp 52) (.const (.int .i64 1)) 3), 3, none⟩,
      ⟨some 3, (.assign (.tmp 53)), 3, none⟩]))
    .skip)))
    (.reg [] [⟨some 33, (.move (.tmp 5)), 3, none⟩,
      ⟨some 34, (.binOp .add 3 (.tmp 33) (.const (.int .i64 1)) 3), 3, none⟩,
      ⟨some 5, (.assign (.tmp 34)), 3, none⟩]))))))
    (.seq (.reg [] [⟨some 54, (.move (.tmp 0)), 32, none⟩,
      ⟨some 55, (.move (.tmp 3)), 3, none⟩,
      ⟨some 56, (.slice 32 (.tmp 54) (some (.tmp 55)) none none), 32, none⟩,
      ⟨none, (.call ⟨(.builtin .clear), #[(.tmp 56)], #[32]⟩), 0, none⟩])
    (.seq (.reg [] [⟨some 57, (.move (.tmp 0)), 32, none⟩,
      ⟨some 58, (.move (.tmp 3)), 3, none⟩,
      ⟨some 59, (.slice 32 (.tmp 57) none (some (.tmp 58)) none), 32, none⟩,
      ⟨some 2, (.assign (.tmp 59)), 32, none⟩])
    .ret))))
    .skip)))
    (.reg [] [⟨some 14, (.move (.tmp 3)), 3, none⟩,
      ⟨some 15, (.binOp .add 3 (.tmp 14) (.const (.int .i64 1)) 3), 3, none⟩,
      ⟨some 3, (.assign (.tmp 15)), 3, none⟩]))))))
    (.seq (.reg [] [⟨some 60, (.move (.tmp 0)), 32, none⟩,
      ⟨some 2, (.assign (.tmp 60)), 32, none⟩])
    .ret))))
theorem CL32 {pre suf : List AV} {sz : Nat} {els els' : List AV} {r : LRet} (hn : (pre ++ .sl lid 0 0 els.length :: suf).length ≤ 61) (h : vc Tryz.prog T [] A32 (FinL T [(.tmp 2)] sz r els') ⟨envOf 0 (pre ++ .sl lid 0 0 els.length :: suf), [(lid, some ⟨sz, els, 0, false⟩)]⟩) : CallL Tryz.prog 32 pre sz els suf r els' :=
  callL_of tok mixed Tryz.func32 (by kernel_rfl) (by kernel_rfl) (by kernel_rfl : Tryz.f32.ntmps = 61) (by kernel_rfl : Tryz.f32.body.bind (strip 61 (fun _ => [])) = some A32) hn h

end Go.Proofs.YtphkchjhghdhiaaGreat
end

section
/- Contracts: the library: searches, equality, clone, concat, repeat, compare. -/
namespace Go.Proofs.YtphkchjhghdhiaaGreat
open Go.Abs Go
set_option maxRecDepth 20000
set_option maxHeartbeats 2000000
attribute [local irreducible] PreK CondK CallK CallG CallX LoopK
attribute [local simp] avsEq avEq akind teq vkind vEq T_71
theorem indexFunc_c (l : List Int) (hl : l.length ≤ big) (f : FuncId) (cap : List AV) (p : Int → Bool) (hp : ∀ x, CallP Tryz.prog f (iv x :: cap) (bv (p x))) (h1 : ∀ m, snapL m cap = cap) (h2 : AV.refsL cap = []) (h3 : ∀ m, snapOKL m cap) :
    CallP Tryz.prog 50 [ints l, .fn f [] cap] (iv (idxF p 0 l)) := by
  refine C50 (by simp) ?_
  generalize hR : idxF p 0 l = R
  simp [A50]
  refine LoopK.by (fun i : Nat => ⟨[(8, iv i), (7, iv l.length), (0, ints l), (1, .fn f [] cap)], []⟩) (fun i => l.length - i) (fun i => i ≤ l.length ∧ idxF p i (l.drop i) = R) 0 (by simpa using hR) (by simp [h2]) ?_
  intro i Q' ⟨hi, hc⟩ hq he hr
  simp
  refine CondK.intro (fun h => ?_) (fun h => ?_)
  · simp at h
    rw [drop_cons l i h] at hc
    simp [h]
    refine CallX.pure (by simpa [h1] using hp (el l i)) (by simp [h3]) (by simp) ?_
    simp
    refine CondK.intro (fun h4 => ?_) (fun h4 => ?_)
    · simp [idxF, h4] at hc
      simp
      apply hr
      simp [hc]
    · simp [idxF, h4] at hc
      simp
      refine PreK.intro (by simp only [big] at hl; omega) fun _ => ?_
      simp
      exact hq (i + 1) _ ⟨by omega, hc⟩ (by omega) (by simp [h2])
  · simp at h
    rw [List.drop_eq_nil_of_le (by omega)] at hc
    simp [idxF] at hc
    simp
    apply he
    simp [hc]

theorem containsFunc_c (l : List Int) (hl : l.length ≤ big) (f : FuncId) (cap : List AV) (p : Int → Bool) (hp : ∀ x, CallP Tryz.prog f (iv x :: cap) (bv (p x))) (h1 : ∀ m, snapL m cap = cap) (h2 : AV.refsL cap = []) (h3 : ∀ m, snapOKL m cap) :
    CallP Tryz.prog 29 [ints l, .fn f [] cap] (bv (l.any p)) := by
  refine C29 (by simp) ?_
  rw [← idxF_any p l 0]
  simp [A29]
  refine CallX.pure (by simpa [h1] using indexFunc_c l hl f cap p hp h1 h2 h3) (by simp [h3]) (by simp) ?_
  simp

theorem index_c (l : List Int) (n : Int) (hl : l.length ≤ big) : CallP Tryz.prog 49 [ints l, iv n] (iv (idxF (fun x => decide (n = x)) 0 l)) := by
  refine C49 (by simp) ?_
  generalize hR : idxF (fun x => decide (n = x)) 0 l = R
  simp [A49]
  refine LoopK.by (fun i : Nat => ⟨[(8, iv i), (7, iv l.length), (0, ints l), (1, iv n)], []⟩) (fun i => l.length - i) (fun i => i ≤ l.length ∧ idxF (fun x => decide (n = x)) i (l.drop i) = R) 0 (by simpa using hR) (by simp) ?_
  intro i Q' ⟨hi, hc⟩ hq he hr
  simp
  refine CondK.intro (fun h => ?_) (fun h => ?_)
  · simp at h
    rw [drop_cons l i h] at hc
    simp [h]
    refine CondK.intro (fun h4 => ?_) (fun h4 => ?_)
    · simp at h4
      simp [idxF, h4] at hc
      simp
      apply hr
      simp [hc]
    · simp at h4
      simp [idxF, h4] at hc
      simp
      refine PreK.intro (by simp only [big] at hl; omega) fun _ => ?_
      simp
      exact hq (i + 1) _ ⟨by omega, hc⟩ (by omega) (by simp)
  · simp at h
    rw [List.drop_eq_nil_of_le (by omega)] at hc
    simp [idxF] at hc
    simp
    apply he
    simp [hc]

theorem contains_c (l : List Int) (n : Int) (hl : l.length ≤ big) : CallP Tryz.prog 48 [ints l, iv n] (bv (l.any fun x => decide (n = x))) := by
  refine C48 (by simp) ?_
  rw [← idxF_any _ l 0]
  simp [A48]
  refine CallX.pure (by simpa using index_c l n hl) (by simp) (by simp) ?_
  simp

theorem equal_c (a b : List Int) (ha : a.length ≤ big) : CallP Tryz.prog 46 [ints a, ints b] (bv (decide (a = b))) := by
  refine C46 (by simp) ?_
  generalize hR : decide (a = b) = R
  simp [A46]
  refine CondK.intro (fun h => ?_) (fun h => ?_)
  · simp at h
    have : a ≠ b := fun e => h (by rw [e])
    simp [this] at hR
    simp [hR]
  · simp at h
    simp
    refine LoopK.by (fun i : Nat => ⟨[(13, iv i), (12, iv a.length), (0, ints a), (1, ints b)], []⟩) (fun i => a.length - i) (fun i => i ≤ a.length ∧ decide (a.drop i = b.drop i) = R) 0 (by simpa using hR) (by simp) ?_
    intro i Q' ⟨hi, hc⟩ hq he hr
    simp
    refine CondK.intro (fun h2 => ?_) (fun h2 => ?_)
    · simp at h2
      rw [drop_cons a i h2, drop_cons b i (by omega)] at hc
      simp [h2, show i < b.length by omega]
      refine CondK.intro (fun h3 => ?_) (fun h3 => ?_)
      · simp at h3
        simp [h3] at hc
        simp
        apply hr
        simp [hc]
      · simp at h3
        simp [h3] at hc
        simp
        refine PreK.intro (by simp only [big] at ha; omega) fun _ => ?_
        simp
        exact hq (i + 1) _ ⟨by omega, by simpa using hc⟩ (by omega) (by simp)
    · simp at h2
      rw [List.drop_eq_nil_of_le (by omega), List.drop_eq_nil_of_le (by omega)] at hc
      simp at hc
      simp
      apply he
      simp [hc]

theorem clone_o (l : List Int) (hl : l.length ≤ 1000) : CallO Tryz.prog 19 [ints l] 1 (l.map iv) := by
  refine CO19 (by simp) ?_
  simp [A19, nilOK, nilArg, nilOf]
  intro b hb
  refine CondK.intro (fun h => ?_) (fun h => ?_)
  · simp at h
    have h2 := hb h
    simp at h2
    subst h2
    simp
  · simp
    refine PreK.intro (by omega) fun _ => ?_
    simp

theorem grow_o (n : Nat) (hn : n ≤ 1000) : CallO Tryz.prog 39 [.seq 1 [] true, iv n] 1 [] := by
  refine CO39 (by simp) ?_
  simp [A39]
  refine CondK.intro (fun h => ?_) (fun h => ?_)
  · simp at h
    omega
  · simp
    refine PreK.intro (by omega) fun _ => ?_
    simp
    refine CondK.intro (fun h => ?_) (fun h => ?_)
    · simp at h
      simp
      refine PreK.intro (by omega) fun _ => ?_
      simp
    · simp

theorem concat_o (ls : List (List Int)) (hn : ls.length ≤ 10) (hs : ls.flatten.length ≤ 900) : CallO Tryz.prog 23 [.seq 1 (ls.map ints) false] 1 (ls.flatten.map iv) := by
  refine CO23 (by simp) ?_
  generalize hR : ls.flatten = R at hs
  simp [A23]
  refine LoopK.by (ι := Nat × Nat) (fun i => ⟨[(11, iv i.1), (10, iv ls.length), (9, .seq 1 (ls.map ints) false), (0, .seq 1 (ls.map ints) false), (3, iv i.2)], []⟩) (fun i => ls.length - i.1)
    (fun i => i.1 ≤ ls.length ∧ i.2 + (ls.drop i.1).flatten.length = R.length) (0, 0) (by simp [← hR]) (by simp) ?_
  intro ⟨i, n⟩ Q' ⟨hi, hc⟩ hq he hr
  dsimp only at hi hc
  simp
  refine CondK.intro (fun h => ?_) (fun h => ?_)
  · simp at h
    rw [drop_cons ls i h, List.flatten_cons, List.length_append] at hc
    simp [h]
    refine PreK.intro (by omega) fun _ => ?_
    simp
    refine CondK.intro (fun h2 => ?_) (fun h2 => ?_)
    · simp at h2
      omega
    · simp
      refine PreK.intro (by omega) fun _ => ?_
      simp
      exact hq (i + 1, n + (el ls i).length) _ ⟨by dsimp only; omega, by dsimp only; omega⟩ (by dsimp only; omega) (by simp)
  · simp at h
    rw [List.drop_eq_nil_of_le (by omega)] at hc
    simp at hc
    simp
    apply he
    simp
    refine CallX.own' (by simpa using grow_o n (by omega)) (by simp) ?_
    simp
    clear hq he hr
    refine LoopK.by (ι := Nat × Nat × List Int) (fun i => ⟨[(27, iv i.1), (26, iv ls.length), (25, .seq 1 (ls.map ints) false), (6, .sl 24 i.2.1 0 i.2.2.length)], [(24, some ⟨1, i.2.2.map iv, i.2.1, false⟩)]⟩) (fun i => ls.length - i.1)
      (fun i => i.1 ≤ ls.length ∧ i.2.2 ++ (ls.drop i.1).flatten = R) (0, 1, []) (by simpa using hR) (by simp) ?_
    intro ⟨i, ver, acc⟩ Q' ⟨hi, hc⟩ hq he hr
    dsimp only at hi hc
    simp
    refine CondK.intro (fun h => ?_) (fun h => ?_)
    · simp at h
      rw [drop_cons ls i h, List.flatten_cons, ← List.append_assoc] at hc
      have hlen : acc.length + (el ls i).length ≤ 900 := by
        have := congrArg List.length hc
        simp only [List.length_append] at this
        omega
      simp [h]
      refine PreK.intro (by omega) fun _ => ?_
      simp
      refine PreK.intro (by omega) fun _ => ?_
      simp
      exact hq (i + 1, ver + 1, acc ++ el ls i) _ ⟨by dsimp only; omega, by dsimp only; exact hc⟩ (by dsimp only; omega) (by simp)
    · simp at h
      rw [List.drop_eq_nil_of_le (by omega)] at hc
      simp at hc
      simp
      apply he
      simp [hc]
def uv (n : Int) : AV := .raw (.int .u64 n)
theorem Mul64_c (n : Nat) (h : n ≤ 1000) : CallP Tryz.prog 89 [uv 1, uv n] (.tup [uv 0, uv n]) := by
  refine C89 (by simp) ?_
  have h1 : n &&& 4294967295 = n := by
    have := Nat.and_two_pow_sub_one_eq_mod n 32
    rw [show (2 : Nat) ^ 32 - 1 = 4294967295 by decide] at this
    rw [this]
    exact Nat.mod_eq_of_lt (by omega)
  have h2 : Int.fdiv (n : Int) 4294967296 = 0 := by
    rw [Int.fdiv_eq_ediv_of_nonneg _ (by decide)]
    omega
  simp [A89, uv]
  repeat (refine PreK.intro (by first | omega | (intros; first | omega | (refine ⟨by omega, ?_⟩; simp_all; done) | (simp_all; done) | (simp_all; omega))) fun _ => ?_; (try simp [h1, h2]))
theorem Mul_c (n : Nat) (h : n ≤ 1000) : CallP Tryz.prog 71 [uv 1, uv n] (.tup [uv 0, uv n]) := by
  refine C71 (by simp) ?_
  have := Mul64_c n h
  simp only [uv] at this ⊢
  simp [A71]
  refine CondK.intro (fun h1 => ?_) (fun h1 => ?_)
  · cases h1
  · try simp 
    repeat' (first
      | (refine CallX.pure (this) (by simp) (by simp) ?_; try simp )
      | (refine CallK.intro (this) (by simp) (by simp) ?_; try simp )
      | (refine CallG.intro (fun _ => this) (by simp) (by simp) ?_; try simp )
      | ((with_reducible refine PreK.intro ?_ ?_); (next => (first | omega | (intros; first | omega | (refine ⟨by omega, ?_⟩; repeat (first | assumption | constructor)) | assumption))); intro _; try simp )
      | fail)
/-- A row of one number, made by taking what is there twice, again and again. -/
theorem repeat_o (k : Bool) (v : Int) (n : Nat) (h0 : 0 < n) (h : n ≤ 1000) : CallO Tryz.prog 54 [.seq 1 [iv v] k, iv (n : Int)] 1 (List.replicate n (iv v)) := by
  refine CO54 (by simp) ?_
  have hm := Mul_c n h
  simp only [uv] at hm
  simp [A54]
  repeat (refine PreK.intro (by first | omega | (intros; first | omega | (refine ⟨by omega, ?_⟩; simp_all; done) | (simp_all; done) | (simp_all; omega))) fun _ => ?_; (try simp ))
  refine CondK.intro (fun h1 => ?_) (fun h1 => ?_)
  · simp at h1; omega
  · repeat (refine PreK.intro (by first | omega | (intros; first | omega | (refine ⟨by omega, ?_⟩; simp_all; done) | (simp_all; done) | (simp_all; omega))) fun _ => ?_; (try simp ))
    have w1 : IntKind.u64.wrap 1 = 1 := by decide
    have w2 : IntKind.u64.wrap (n : Int) = n := wrap_in (by simp only [inR]; omega)
    have w3 : IntKind.i64.wrap (n : Int) = n := wrap_in (by simp only [inR]; omega)
    repeat (refine PreK.intro (by first | omega | (intros; first | omega | (refine ⟨by omega, ?_⟩; simp_all; done) | (simp_all; done) | (simp_all; omega))) fun _ => ?_; (try simp [w1, w2, w3]))
    rw [w1, w2]
    try simp [w1, w2, w3]
    repeat' (first
      | (refine CallX.pure (hm) (by simp) (by simp) ?_; try simp [w1, w2, w3])
      | (refine CallK.intro (hm) (by simp) (by simp) ?_; try simp [w1, w2, w3])
      | (refine CallG.intro (fun _ => hm) (by simp) (by simp) ?_; try simp [w1, w2, w3])
      | ((with_reducible refine PreK.intro ?_ ?_); (next => (first | omega | (intros; first | omega | (refine ⟨by omega, ?_⟩; repeat (first | assumption | constructor)) | assumption))); intro _; try simp [w1, w2, w3])
      | fail)
    refine CondK.intro (fun h2 => ?_) (fun h2 => ?_)
    · simp at h2; omega
    · repeat (refine PreK.intro (by first | omega | (intros; first | omega | (refine ⟨by omega, ?_⟩; simp_all; done) | (simp_all; done) | (simp_all; omega))) fun _ => ?_; (try simp [w1, w2, w3]))
      have t1 : List.take n [AV.raw (Value.int IntKind.i64 v)] = [AV.raw (Value.int IntKind.i64 v)] := List.take_of_length_le h0
      have t2 : min n 1 = 1 := by omega
      have t3 : min 1 n = 1 := by omega
      refine LoopK.by (ι := Nat) (fun k => ⟨[(8, iv k), (7, .sl 30 1 0 n)], [(30, some ⟨1, List.replicate k (iv v) ++ List.replicate (n - k) (iv 0), 1, false⟩)]⟩) (fun k => n - k) (fun k => 1 ≤ k ∧ k ≤ n) 1 ⟨Nat.le_refl 1, h0⟩ (by simp [t1, t2, t3]) ?_
      intro k Q' ⟨k1, k2⟩ hq he hr
      repeat (refine PreK.intro (by first | omega | (intros; first | omega | (refine ⟨by omega, ?_⟩; simp_all; done) | (simp_all; done) | (simp_all; omega))) fun _ => ?_; (try simp ))
      refine CondK.intro (fun h3 => ?_) (fun h3 => ?_)
      · simp at h3
        repeat (refine PreK.intro (by first | omega | (intros; first | omega | (refine ⟨by omega, ?_⟩; simp_all; done) | (simp_all; done) | (simp_all; omega))) fun _ => ?_; (try simp [h3]))
        have e1 : min k (n - k) = min (n - k) k := Nat.min_comm _ _
        have e2 : List.drop (k + min (n - k) k) (List.replicate k (AV.raw (Value.int IntKind.i64 v)) ++ List.replicate (n - k) (AV.raw (Value.int IntKind.i64 0))) = List.replicate (n - (k + min (n - k) k)) (AV.raw (Value.int IntKind.i64 0)) := by
          rw [List.drop_append, List.drop_replicate, List.drop_replicate, List.length_replicate, show k - (k + min (n - k) k) = 0 by omega, show n - k - (k + min (n - k) k - k) = n - (k + min (n - k) k) by omega]
          simp
        exact hq (k + min (n - k) k) _ ⟨by omega, by omega⟩ (by omega) (by simp [e1, e2])
      · simp at h3
        have e : k = n := by omega
        subst e
        try simp 
        apply he
        repeat (refine PreK.intro (by first | omega | (intros; first | omega | (refine ⟨by omega, ?_⟩; simp_all; done) | (simp_all; done) | (simp_all; omega))) fun _ => ?_; (try simp ))
end Go.Proofs.YtphkchjhghdhiaaGreat
end

section
/- Contracts: the library: comparing words, equal neighbours left out. -/
namespace Go.Proofs.YtphkchjhghdhiaaGreat
open Go.Abs Go
set_option maxRecDepth 20000
set_option maxHeartbeats 2000000
attribute [local irreducible] PreK CondK CallK CallG CallX LoopK
attribute [local simp] avsEq avEq akind teq vkind vEq
theorem isNaN_c (a : Int) : CallP Tryz.prog 82 [iv a] (bv false) := by
  refine C82 (by simp) ?_
  simp [A82]
theorem cmpInt_c (a b : Int) : CallP Tryz.prog 58 [iv a, iv b] (iv (cmpI a b)) := by
  refine C58 (by simp) ?_
  simp [A58]
  try simp 
  repeat' (first
    | (refine CallX.pure (isNaN_c a) (by simp) (by simp) ?_; try simp )
    | (refine CallK.intro (isNaN_c a) (by simp) (by simp) ?_; try simp )
    | (refine CallG.intro (fun _ => isNaN_c a) (by simp) (by simp) ?_; try simp )
    | (refine CallX.pure (isNaN_c b) (by simp) (by simp) ?_; try simp )
    | (refine CallK.intro (isNaN_c b) (by simp) (by simp) ?_; try simp )
    | (refine CallG.intro (fun _ => isNaN_c b) (by simp) (by simp) ?_; try simp )
    | ((with_reducible refine PreK.intro ?_ ?_); (next => (first | omega | (intros; first | omega | (refine ⟨by omega, ?_⟩; repeat (first | assumption | constructor)) | assumption))); intro _; try simp )
    | fail)
  refine CondK.intro (fun h1 => ?_) (fun h1 => ?_)
  · simp at h1
  · try simp 
    repeat' (first
      | ((with_reducible refine PreK.intro ?_ ?_); (next => (first | omega | (intros; first | omega | (refine ⟨by omega, ?_⟩; repeat (first | assumption | constructor)) | assumption))); intro _; try simp )
      | fail)
    refine CondK.intro (fun h2 => ?_) (fun h2 => ?_)
    · simp at h2
    · try simp 
      repeat' (first
        | ((with_reducible refine PreK.intro ?_ ?_); (next => (first | omega | (intros; first | omega | (refine ⟨by omega, ?_⟩; repeat (first | assumption | constructor)) | assumption))); intro _; try simp )
        | fail)
      refine CondK.intro (fun h3 => ?_) (fun h3 => ?_)
      · simp at h3
        simp [cmpI, h3]
      · simp at h3
        try simp 
        repeat' (first
          | ((with_reducible refine PreK.intro ?_ ?_); (next => (first | omega | (intros; first | omega | (refine ⟨by omega, ?_⟩; repeat (first | assumption | constructor)) | assumption))); intro _; try simp )
          | fail)
        refine CondK.intro (fun h4 => ?_) (fun h4 => ?_)
        · simp at h4
          simp [cmpI, h4, show ¬ a < b by omega]
        · simp at h4
          simp [cmpI, show ¬ a < b by omega, show ¬ b < a by omega]
theorem Compare_c (a b : List Int) (ha : a.length ≤ big) (hb : b.length ≤ big) : CallP Tryz.prog 44 [ints a, ints b] (iv (cmpW a b)) := by
  refine C44 (by simp) ?_
  generalize hR : cmpW a b = R
  simp [A44]
  simp only [big] at ha hb
  refine LoopK.by (fun i : Nat => ⟨[(11, iv i), (10, iv a.length), (9, ints a), (0, ints a), (1, ints b)], []⟩) (fun i => a.length - i) (fun i => i ≤ a.length ∧ i ≤ b.length ∧ cmpW (a.drop i) (b.drop i) = R) 0 (by simpa using hR) (by simp) ?_
  intro i Q' ⟨hi, hib, hc⟩ hq he hr
  try simp 
  refine CondK.intro (fun h1 => ?_) (fun h1 => ?_)
  · simp at h1
    rw [drop_cons a i h1] at hc
    try simp [h1]
    repeat' (first
      | ((with_reducible refine PreK.intro ?_ ?_); (next => (first | omega | (intros; first | omega | (refine ⟨by omega, ?_⟩; repeat (first | assumption | constructor)) | assumption))); intro _; try simp [h1])
      | fail)
    refine CondK.intro (fun h2 => ?_) (fun h2 => ?_)
    · simp at h2
      rw [List.drop_eq_nil_of_le (show b.length ≤ i by omega), cmpW_long] at hc
      try simp 
      apply hr
      simp [hc]
    · simp at h2
      rw [drop_cons b i (by omega), cmpW_cons] at hc
      try simp [h2, h1]
      repeat' (first
        | (refine CallX.pure (cmpInt_c (el a i) (el b i)) (by simp) (by simp) ?_; try simp [h2, h1])
        | (refine CallK.intro (cmpInt_c (el a i) (el b i)) (by simp) (by simp) ?_; try simp [h2, h1])
        | (refine CallG.intro (fun _ => cmpInt_c (el a i) (el b i)) (by simp) (by simp) ?_; try simp [h2, h1])
        | ((with_reducible refine PreK.intro ?_ ?_); (next => (first | omega | (intros; first | omega | (refine ⟨by omega, ?_⟩; repeat (first | assumption | constructor)) | assumption))); intro _; try simp [h2, h1])
        | fail)
      refine CondK.intro (fun h3 => ?_) (fun h3 => ?_)
      · simp at h3
        rw [if_pos h3] at hc
        try simp 
        apply hr
        simp [hc]
      · simp at h3
        rw [if_neg (by simpa using h3)] at hc
        try simp 
        repeat' (first
          | ((with_reducible refine PreK.intro ?_ ?_); (next => (first | omega | (intros; first | omega | (refine ⟨by omega, ?_⟩; repeat (first | assumption | constructor)) | assumption))); intro _; try simp )
          | fail)
        exact hq (i + 1) _ ⟨by omega, by omega, hc⟩ (by omega) (by simp)
  · simp at h1
    rw [List.drop_eq_nil_of_le (by omega)] at hc
    try simp 
    apply he
    try simp 
    refine CondK.intro (fun h2 => ?_) (fun h2 => ?_)
    · simp at h2
      rw [drop_cons b i (by omega), cmpW_short] at hc
      simp [hc]
    · simp at h2
      rw [List.drop_eq_nil_of_le (by omega), cmpW_nil] at hc
      simp [hc]

theorem compact_L (l : List (List Int)) (hl : l.length ≤ 1000) (hw : ∀ w ∈ l, w.length ≤ 1000) :
    CallL Tryz.prog 45 [] 1 (l.map ints) [.fn 46 [] []] (.part (compW l).length) ((compW l).map ints ++ List.replicate (l.length - (compW l).length) (.raw (.slice none 0 0))) := by
  refine CL45 (by simp) ?_
  have hel : ∀ i, (el l i).length ≤ 1000 := by
    intro i
    by_cases h : i < l.length
    · exact hw _ (el_mem_of l i h)
    · unfold el; rw [List.getD_eq_getElem?_getD, List.getElem?_eq_none (by omega)]; simp [default]
  generalize hR : compW l = R
  simp [A45]
  refine CondK.intro (fun h1 => ?_) (fun h1 => ?_)
  · simp at h1
    have : R = l := by
      rw [← hR]
      match l, h1 with
      | [], _ => rfl
      | [x], _ => rfl
      | _ :: _ :: _, h1 => simp at h1; omega
    subst this
    simp
  · simp at h1
    try simp 
    have h0 : l.take 1 ++ compF (el l 0) (l.drop 1) = R := by
      rw [← hR]
      match l, h1 with
      | x :: m, _ => simp [compW, el]
    refine LoopK.by (fun k : Nat => ⟨[(5, iv ((k : Int) + 1)), (0, .sl lid 0 0 l.length), (1, .fn 46 [] [])], [(lid, some ⟨1, l.map ints, 0, false⟩)]⟩) (fun i => l.length - i) (fun k => k + 1 ≤ l.length ∧ l.take (k + 1) ++ compF (el l k) (l.drop (k + 1)) = R) 0 ⟨by omega, h0⟩ (by simp) ?_
    intro k Q' ⟨hk, hc⟩ hq he hr
    try simp 
    refine CondK.intro (fun h2 => ?_) (fun h2 => ?_)
    · simp at h2
      have h2' : k + 1 < l.length := by omega
      have h2'' : k < l.length := by omega
      have he1 := equal_c (el l (k + 1)) (el l k) (Nat.le_trans (hel _) (by unfold big; omega))
      rw [drop_cons l (k + 1) h2', compF] at hc
      repeat (refine PreK.intro (by first | omega | (intros; first | omega | (refine ⟨by omega, ?_⟩; simp_all; done) | (simp_all; done) | (simp_all; omega))) fun _ => ?_; (try simp [h2', h2'']))
      refine CallK.intro (by simpa using he1) (by simp) (by simp) ?_
      try simp 
      refine CondK.intro (fun h3 => ?_) (fun h3 => ?_)
      · simp at h3
        rw [if_pos h3, ← h3] at hc
        try simp 
        repeat' (first
          | ((with_reducible refine PreK.intro ?_ ?_); (next => (first | omega | (intros; first | omega | (refine ⟨by omega, ?_⟩; repeat (first | assumption | constructor)) | assumption))); intro _; try simp )
          | fail)
        refine LoopK.by (ι := Nat × Nat × List (List Int)) (fun x => ⟨[(7, iv ((x.1 : Int) + 1)), (5, iv x.2.1), (6, .sl lid 0 (k + 1) (l.length - (k + 1))), (0, .sl lid 0 0 l.length), (1, .fn 46 [] [])], [(lid, some ⟨1, x.2.2.map ints, 0, false⟩)]⟩) (fun x => l.length - x.1)
          (fun x => k + 1 + x.1 + 1 ≤ l.length ∧ x.2.1 ≤ k + 1 + x.1 ∧ x.2.2.length = l.length ∧ (∀ q, k + 1 + x.1 ≤ q → el x.2.2 q = el l q) ∧ x.2.2.take x.2.1 ++ compF (el l (k + 1 + x.1)) (l.drop (k + 1 + x.1 + 1)) = R) (0, k + 1, l) ⟨by dsimp only; omega, by simp, rfl, fun _ _ => rfl, hc⟩ (by simp) ?_
        intro ⟨j, i, c⟩ Q'' ⟨hj, hij, hcl, hce, hin⟩ hq' he' hr'
        dsimp only at hj hij hcl hce hin
        try simp 
        refine CondK.intro (fun h4 => ?_) (fun h4 => ?_)
        · simp at h4
          have h5 : k + 1 + j + 1 < l.length := by omega
          have e1 := hce (k + 1 + j) (by omega)
          have e2 := hce (k + 1 + (j + 1)) (by omega)
          have e3 : k + 1 + (j + 1) = k + 1 + j + 1 := rfl
          have g1 : k + 1 + j < c.length := by omega
          have g2 : k + 1 + (j + 1) < c.length := by omega
          have he2 := equal_c (el l (k + 1 + (j + 1))) (el l (k + 1 + j)) (Nat.le_trans (hel _) (by unfold big; omega))
          rw [drop_cons l _ h5, compF] at hin
          repeat (refine PreK.intro (by first | omega | (intros; first | omega | (refine ⟨by omega, ?_⟩; simp_all; done) | (simp_all; done) | (simp_all; omega))) fun _ => ?_; (try simp [g1, g2, e1, e2]))
          refine CallK.intro (by simpa using he2) (by simp) (by simp) ?_
          try simp 
          repeat (refine PreK.intro (by first | omega | (intros; first | omega | (refine ⟨by omega, ?_⟩; simp_all; done) | (simp_all; done) | (simp_all; omega))) fun _ => ?_; (try simp ))
          refine CondK.intro (fun h6 => ?_) (fun h6 => ?_)
          · simp at h6
            rw [if_neg (by rw [← e3]; exact h6)] at hin
            have g3 : i < c.length := by omega
            repeat (refine PreK.intro (by first | omega | (intros; first | omega | (refine ⟨by omega, ?_⟩; simp_all; done) | (simp_all; done) | (simp_all; omega))) fun _ => ?_; (try simp [g1, g2, e1, e2, g3]))
            refine hq' (j + 1, i + 1, c.set i (el l (k + 1 + (j + 1)))) _ ⟨by dsimp only; omega, by dsimp only; omega, by simpa using hcl, fun q hq2 => ?_, ?_⟩ (by dsimp only; omega) ?_
            · dsimp only at hq2 ⊢
              unfold el
              rw [List.getD_eq_getElem?_getD, List.getElem?_set, if_neg (by omega), ← List.getD_eq_getElem?_getD]
              exact hce q (by omega)
            · dsimp only
              rw [take_setG _ _ _ g3, List.append_assoc]
              exact hin
            · simp [List.map_set]
          · simp at h6
            rw [if_pos (by rw [← e3]; exact h6)] at hin
            repeat (refine PreK.intro (by first | omega | (intros; first | omega | (refine ⟨by omega, ?_⟩; simp_all; done) | (simp_all; done) | (simp_all; omega))) fun _ => ?_; (try simp ))
            refine hq' (j + 1, i, c) _ ⟨by dsimp only; omega, by dsimp only; omega, hcl, fun q hq2 => hce q (by dsimp only at hq2; omega), ?_⟩ (by dsimp only; omega) (by simp)
            dsimp only
            rw [h6]
            exact hin
        · simp at h4
          rw [List.drop_eq_nil_of_le (by omega)] at hin
          simp only [compF, List.append_nil] at hin
          have hRl : R.length = i := by rw [← hin]; simp; omega
          try simp 
          apply he'
          have e5 : (c.map ints).take i = R.map ints := by rw [← hin, List.map_take]
          have e6 : (c.map ints).drop (i + (l.length - i)) = [] := List.drop_eq_nil_of_le (by simp; omega)
          try simp 
          repeat' (first
            | ((with_reducible refine PreK.intro ?_ ?_); (next => (first | omega | (intros; first | omega | (refine ⟨by omega, ?_⟩; repeat (first | assumption | constructor)) | assumption))); intro _; try simp )
            | fail)
          apply hr
          simp only [e5, e6, hRl]
          try simp 
      · simp at h3
        rw [if_neg h3] at hc
        repeat (refine PreK.intro (by first | omega | (intros; first | omega | (refine ⟨by omega, ?_⟩; simp_all; done) | (simp_all; done) | (simp_all; omega))) fun _ => ?_; (try simp ))
        refine hq (k + 1) _ ⟨by omega, ?_⟩ (by omega) (by simp)
        rw [take_succ l (k + 1) h2']
        simpa using hc
    · simp at h2
      rw [List.drop_eq_nil_of_le (by omega)] at hc
      simp only [compF, List.append_nil] at hc
      rw [List.take_of_length_le (by omega)] at hc
      subst hc
      try simp 
      apply he
      try simp 
      repeat' (first
        | ((with_reducible refine PreK.intro ?_ ?_); (next => (first | omega | (intros; first | omega | (refine ⟨by omega, ?_⟩; repeat (first | assumption | constructor)) | assumption))); intro _; try simp )
        | fail)
theorem Compact_L (l : List Int) (hl : l.length ≤ 1000) :
    CallL Tryz.prog 32 [] 1 (l.map iv) [] (.part (compI l).length) ((compI l).map iv ++ List.replicate (l.length - (compI l).length) (iv 0)) := by
  refine CL32 (by simp) ?_
  generalize hR : compI l = R
  simp [A32]
  refine CondK.intro (fun h1 => ?_) (fun h1 => ?_)
  · simp at h1
    have : R = l := by
      rw [← hR]
      match l, h1 with
      | [], _ => rfl
      | [x], _ => rfl
      | _ :: _ :: _, h1 => simp at h1; omega
    subst this
    simp
  · simp at h1
    try simp 
    have h0 : l.take 1 ++ comI (el l 0) (l.drop 1) = R := by
      rw [← hR]
      match l, h1 with
      | x :: m, _ => simp [compI, el]
    refine LoopK.by (fun k : Nat => ⟨[(3, iv ((k : Int) + 1)), (0, .sl lid 0 0 l.length)], [(lid, some ⟨1, l.map iv, 0, false⟩)]⟩) (fun i => l.length - i) (fun k => k + 1 ≤ l.length ∧ l.take (k + 1) ++ comI (el l k) (l.drop (k + 1)) = R) 0 ⟨by omega, h0⟩ (by simp) ?_
    intro k Q' ⟨hk, hc⟩ hq he hr
    try simp 
    refine CondK.intro (fun h2 => ?_) (fun h2 => ?_)
    · simp at h2
      have h2' : k + 1 < l.length := by omega
      have h2'' : k < l.length := by omega
      rw [drop_cons l (k + 1) h2', comI] at hc
      repeat (refine PreK.intro (by first | omega | (intros; first | omega | (refine ⟨by omega, ?_⟩; simp_all; done) | (simp_all; done) | (simp_all; omega))) fun _ => ?_; (try simp [h2', h2'']))
      refine CondK.intro (fun h3 => ?_) (fun h3 => ?_)
      · simp at h3
        rw [if_pos h3, ← h3] at hc
        try simp 
        repeat' (first
          | ((with_reducible refine PreK.intro ?_ ?_); (next => (first | omega | (intros; first | omega | (refine ⟨by omega, ?_⟩; repeat (first | assumption | constructor)) | assumption))); intro _; try simp )
          | fail)
        refine LoopK.by (ι := Nat × Nat × List Int) (fun x => ⟨[(5, iv ((x.1 : Int) + 1)), (3, iv x.2.1), (4, .sl lid 0 (k + 1) (l.length - (k + 1))), (0, .sl lid 0 0 l.length)], [(lid, some ⟨1, x.2.2.map iv, 0, false⟩)]⟩) (fun x => l.length - x.1)
          (fun x => k + 1 + x.1 + 1 ≤ l.length ∧ x.2.1 ≤ k + 1 + x.1 ∧ x.2.2.length = l.length ∧ (∀ q, k + 1 + x.1 ≤ q → el x.2.2 q = el l q) ∧ x.2.2.take x.2.1 ++ comI (el l (k + 1 + x.1)) (l.drop (k + 1 + x.1 + 1)) = R) (0, k + 1, l) ⟨by dsimp only; omega, by simp, rfl, fun _ _ => rfl, hc⟩ (by simp) ?_
        intro ⟨j, i, c⟩ Q'' ⟨hj, hij, hcl, hce, hin⟩ hq' he' hr'
        dsimp only at hj hij hcl hce hin
        try simp 
        refine CondK.intro (fun h4 => ?_) (fun h4 => ?_)
        · simp at h4
          have h5 : k + 1 + j + 1 < l.length := by omega
          have e1 := hce (k + 1 + j) (by omega)
          have e2 := hce (k + 1 + (j + 1)) (by omega)
          have e3 : k + 1 + (j + 1) = k + 1 + j + 1 := rfl
          have g1 : k + 1 + j < c.length := by omega
          have g2 : k + 1 + (j + 1) < c.length := by omega
          rw [drop_cons l _ h5, comI] at hin
          repeat (refine PreK.intro (by first | omega | (intros; first | omega | (refine ⟨by omega, ?_⟩; simp_all; done) | (simp_all; done) | (simp_all; omega))) fun _ => ?_; (try simp [g1, g2, e1, e2]))
          refine CondK.intro (fun h6 => ?_) (fun h6 => ?_)
          · simp at h6
            rw [if_neg (by rw [← e3]; exact h6)] at hin
            have g3 : i < c.length := by omega
            repeat (refine PreK.intro (by first | omega | (intros; first | omega | (refine ⟨by omega, ?_⟩; simp_all; done) | (simp_all; done) | (simp_all; omega))) fun _ => ?_; (try simp [g1, g2, e1, e2, g3]))
            refine hq' (j + 1, i + 1, c.set i (el l (k + 1 + (j + 1)))) _ ⟨by dsimp only; omega, by dsimp only; omega, by simpa using hcl, fun q hq2 => ?_, ?_⟩ (by dsimp only; omega) ?_
            · dsimp only at hq2 ⊢
              unfold el
              rw [List.getD_eq_getElem?_getD, List.getElem?_set, if_neg (by omega), ← List.getD_eq_getElem?_getD]
              exact hce q (by omega)
            · dsimp only
              rw [take_setI _ _ _ g3, List.append_assoc]
              exact hin
            · simp [List.map_set]
          · simp at h6
            rw [if_pos (by rw [← e3]; exact h6)] at hin
            repeat (refine PreK.intro (by first | omega | (intros; first | omega | (refine ⟨by omega, ?_⟩; simp_all; done) | (simp_all; done) | (simp_all; omega))) fun _ => ?_; (try simp ))
            refine hq' (j + 1, i, c) _ ⟨by dsimp only; omega, by dsimp only; omega, hcl, fun q hq2 => hce q (by dsimp only at hq2; omega), ?_⟩ (by dsimp only; omega) (by simp)
            dsimp only
            rw [h6]
            exact hin
        · simp at h4
          rw [List.drop_eq_nil_of_le (by omega)] at hin
          simp only [comI, List.append_nil] at hin
          have hRl : R.length = i := by rw [← hin]; simp; omega
          try simp 
          apply he'
          have e5 : (c.map iv).take i = R.map iv := by rw [← hin, List.map_take]
          have e6 : (c.map iv).drop (i + (l.length - i)) = [] := List.drop_eq_nil_of_le (by simp; omega)
          try simp 
          repeat' (first
            | ((with_reducible refine PreK.intro ?_ ?_); (next => (first | omega | (intros; first | omega | (refine ⟨by omega, ?_⟩; repeat (first | assumption | constructor)) | assumption))); intro _; try simp )
            | fail)
          apply hr
          simp only [e5, e6, hRl]
          try simp 
      · simp at h3
        rw [if_neg h3] at hc
        repeat (refine PreK.intro (by first | omega | (intros; first | omega | (refine ⟨by omega, ?_⟩; simp_all; done) | (simp_all; done) | (simp_all; omega))) fun _ => ?_; (try simp ))
        refine hq (k + 1) _ ⟨by omega, ?_⟩ (by omega) (by simp)
        rw [take_succ l (k + 1) h2']
        simpa using hc
    · simp at h2
      rw [List.drop_eq_nil_of_le (by omega)] at hc
      simp only [comI, List.append_nil] at hc
      rw [List.take_of_length_le (by omega)] at hc
      subst hc
      try simp 
      apply he
      try simp 
      repeat' (first
        | ((with_reducible refine PreK.intro ?_ ?_); (next => (first | omega | (intros; first | omega | (refine ⟨by omega, ?_⟩; repeat (first | assumption | constructor)) | assumption))); intro _; try simp )
        | fail)
end Go.Proofs.YtphkchjhghdhiaaGreat
end

section
/- Contracts: the document's small functions on lists. -/
namespace Go.Proofs.YtphkchjhghdhiaaGreat
open Go.Abs Go
set_option maxRecDepth 20000
set_option maxHeartbeats 2000000
attribute [local irreducible] PreK CondK CallK CallG CallX LoopK
attribute [local simp] avsEq avEq akind teq vkind vEq

theorem big_of {n : Nat} (h : n ≤ 1000) : n ≤ big := by simp only [big]; omega
theorem take_map_one {α β : Type} (f : α → β) (l : List α) (x : β) : (l.map f ++ [x]).take (l.length + 1) = l.map f ++ [x] := by rw [List.take_of_length_le (by simp)]
@[simp] def wordsV (l : List Word) : AV := .seq 1 (l.map ints) false
theorem within1_c (n lo hi : Int) : CallP Tryz.prog 21 [iv n, iv lo, iv hi] (bv (decide (lo ≤ n) && decide (n ≤ hi))) := by
  refine C21 (by simp) ?_
  simp [A21]
theorem has1_c (l : List Int) (n : Int) (hl : l.length ≤ big) : CallP Tryz.prog 38 [ints l, iv n] (bv (l.contains n)) := by
  refine C38 (by simp) ?_
  generalize hR : l.contains n = R
  simp only [big] at hl
  simp [A38]
  refine LoopK.by (fun i : Nat => ⟨[(5, iv i), (0, ints l), (1, iv n)], []⟩) (fun i => l.length - i) (fun i => i ≤ l.length ∧ (l.drop i).contains n = R) 0 (by simpa using hR) (by simp) ?_
  intro i Q' ⟨hi, hc⟩ hq he hr
  try simp 
  refine CondK.intro (fun h1 => ?_) (fun h1 => ?_)
  · simp at h1
    rw [drop_cons l i h1, List.contains_cons] at hc
    repeat (refine PreK.intro (by first | omega | (intros; first | omega | (refine ⟨by omega, ?_⟩; simp_all; done) | (simp_all; done) | (simp_all; omega))) fun _ => ?_; (try simp [h1]))
    refine CondK.intro (fun h2 => ?_) (fun h2 => ?_)
    · simp [h1] at h2
      simp [h2] at hc
      try simp 
      apply hr
      simp [← hc]
    · simp [h1] at h2
      rw [show (n == el l i) = false by simp; exact fun e => h2 e.symm] at hc
      repeat (refine PreK.intro (by first | omega | (intros; first | omega | (refine ⟨by omega, ?_⟩; simp_all; done) | (simp_all; done) | (simp_all; omega))) fun _ => ?_; (try simp ))
      exact hq (i + 1) _ ⟨by omega, by simpa using hc⟩ (by omega) (by simp)
  · simp at h1
    rw [List.drop_eq_nil_of_le (by omega)] at hc
    simp at hc
    try simp 
    apply he
    simp [← hc]
theorem same1_c (a b : List Int) (ha : a.length ≤ big) : CallP Tryz.prog 22 [ints a, ints b] (bv (decide (a = b))) := by
  refine C22 (by simp) ?_
  generalize hR : decide (a = b) = R
  simp [A22]
  refine CondK.intro (fun h => ?_) (fun h => ?_)
  · simp at h
    have : a ≠ b := fun e => h (by rw [e])
    simp [this] at hR
    simp [hR]
  · simp at h
    simp
    refine LoopK.by (fun i : Nat => ⟨[(5, iv i), (4, bv false), (0, ints a), (1, ints b)], []⟩) (fun i => a.length - i) (fun i => i ≤ a.length ∧ decide (a.drop i = b.drop i) = R) 0 (by simpa using hR) (by simp) ?_
    intro i Q' ⟨hi, hc⟩ hq he hr
    simp
    refine CondK.intro (fun h2 => ?_) (fun h2 => ?_)
    · simp at h2
      rw [drop_cons a i h2, drop_cons b i (by omega)] at hc
      simp [h2, show i < b.length by omega]
      refine CondK.intro (fun h3 => ?_) (fun h3 => ?_)
      · simp at h3
        simp [h3] at hc
        simp
        apply hr
        simp [hc]
      · simp at h3
        simp [h3] at hc
        simp
        refine PreK.intro (by simp only [big] at ha; omega) fun _ => ?_
        simp
        exact hq (i + 1) _ ⟨by omega, by simpa using hc⟩ (by omega) (by simp)
    · simp at h2
      rw [List.drop_eq_nil_of_le (by omega), List.drop_eq_nil_of_le (by omega)] at hc
      simp at hc
      simp
      apply he
      simp [hc]
theorem sameLists_c (a b : List Word) (ha : a.length ≤ big) (hw : ∀ x ∈ a, x.length ≤ big) : CallP Tryz.prog 9 [wordsV a, wordsV b] (bv (decide (a = b))) := by
  refine C9 (by simp) ?_
  generalize hR : decide (a = b) = R
  simp only [big] at ha
  simp [A9]
  refine CondK.intro (fun h => ?_) (fun h => ?_)
  · simp at h
    have : a ≠ b := fun e => h (by rw [e])
    simp [this] at hR
    simp [hR]
  · simp at h
    try simp 
    refine LoopK.by (fun i : Nat => ⟨[(5, iv i), (0, wordsV a), (1, wordsV b)], []⟩) (fun i => a.length - i) (fun i => i ≤ a.length ∧ decide (a.drop i = b.drop i) = R) 0 (by simpa using hR) (by simp) ?_
    intro i Q' ⟨hi, hc⟩ hq he hr
    try simp 
    refine CondK.intro (fun h2 => ?_) (fun h2 => ?_)
    · simp at h2
      have h2b : i < b.length := by omega
      have hs := same1_c (el a i) (el b i) (hw _ (el_mem_of a i h2))
      rw [drop_cons a i h2, drop_cons b i h2b] at hc
      repeat (refine PreK.intro (by first | omega | (intros; first | omega | (refine ⟨by omega, ?_⟩; simp_all; done) | (simp_all; done) | (simp_all; omega))) fun _ => ?_; (try simp [h2, h2b]))
      refine CallK.intro (by simpa using hs) (by simp) (by simp) ?_
      try simp 
      repeat (refine PreK.intro (by first | omega | (intros; first | omega | (refine ⟨by omega, ?_⟩; simp_all; done) | (simp_all; done) | (simp_all; omega))) fun _ => ?_; (try simp ))
      refine CondK.intro (fun h3 => ?_) (fun h3 => ?_)
      · simp at h3
        simp [h3] at hc
        try simp 
        apply hr
        simp [hc]
      · simp at h3
        simp [h3] at hc
        repeat (refine PreK.intro (by first | omega | (intros; first | omega | (refine ⟨by omega, ?_⟩; simp_all; done) | (simp_all; done) | (simp_all; omega))) fun _ => ?_; (try simp ))
        exact hq (i + 1) _ ⟨by omega, by simpa using hc⟩ (by omega) (by simp)
    · simp at h2
      rw [List.drop_eq_nil_of_le (by omega), List.drop_eq_nil_of_le (by omega)] at hc
      simp at hc
      try simp 
      apply he
      simp [hc]
end Go.Proofs.YtphkchjhghdhiaaGreat
end

section
/- Plain: tables of sounds, what names stand for, names and classes. -/
namespace Go.Proofs.YtphkchjhghdhiaaGreat
open Go.Abs Go

abbrev Tab := List (List Int)

/-! ### lists without doubles -/
theorem perm_of_sub {α : Type} [DecidableEq α] : ∀ {l m : List α}, l.Nodup → (∀ x ∈ l, x ∈ m) → m.length ≤ l.length → l.Perm m
  | [], m, _, _, h => by
    have : m = [] := List.eq_nil_of_length_eq_zero (by simpa using h)
    rw [this]
  | x :: l, m, hn, hs, h => by
    rw [List.nodup_cons] at hn
    have hx := hs x (by simp)
    have hp := List.perm_cons_erase hx
    have hl : (m.erase x).length = m.length - 1 := List.length_erase_of_mem hx
    refine (List.Perm.cons x (perm_of_sub hn.2 (fun y hy => ?_) ?_)).trans hp.symm
    · refine (List.mem_erase_of_ne ?_).2 (hs y (by simp [hy]))
      rintro rfl
      exact hn.1 hy
    · rw [hl]; simp only [List.length_cons] at h; omega
theorem perm_of_mem {α : Type} [DecidableEq α] {l m : List α} (hl : l.Nodup) (hm : m.Nodup) (h : ∀ x, x ∈ l ↔ x ∈ m) : l.Perm m :=
  perm_of_sub hl (fun x => (h x).1) (nodup_le hm fun x => (h x).2)
theorem pairwise_lt_nodup {l : List Int} (h : l.Pairwise (· < ·)) : l.Nodup := h.imp fun h => by omega
theorem sortI_of_mem {l m : List Int} (hl : l.Nodup) (hm : m.Pairwise (· < ·)) (h : ∀ x, x ∈ l ↔ x ∈ m) : sortI l = m :=
  sortI_eq (perm_of_mem hl (pairwise_lt_nodup hm) h) (hm.imp fun h => by omega)
theorem mem_sortI {l : List Int} {x : Int} : x ∈ sortI l ↔ x ∈ l := (sortI_perm l).mem_iff
theorem sortI_lt {l : List Int} (hl : l.Nodup) : (sortI l).Pairwise (· < ·) := by
  have h1 := sortI_sorted l
  have h2 : (sortI l).Nodup := (sortI_perm l).nodup_iff.2 hl
  exact List.Pairwise.imp₂ (fun a b hab hne => by omega) h1 h2

/-! ### valid tables -/
def okS (x : Int) : Bool := decide (0 ≤ x) && decide (x ≤ 5)
def rowBad (row : List Int) : Bool := decide (row = []) || row.any fun x => !okS x
def tabErr (t : Tab) : Int := if !(decide (1 ≤ (t.length : Int)) && decide ((t.length : Int) ≤ 6)) then 3 else if t.any rowBad then 1 else if t.flatten.Nodup then 0 else 5
structure TabOK (t : Tab) : Prop where
  pos : 1 ≤ t.length
  num : t.length ≤ 6
  row : ∀ r ∈ t, r ≠ []
  val : ∀ x ∈ t.flatten, 0 ≤ x ∧ x ≤ 5
  nd : t.flatten.Nodup
theorem rowBad_false {r : List Int} : rowBad r = false ↔ r ≠ [] ∧ ∀ x ∈ r, 0 ≤ x ∧ x ≤ 5 := by
  simp [rowBad, okS, List.any_eq_false]
theorem tabErr_zero {t : Tab} : tabErr t = 0 ↔ TabOK t := by
  unfold tabErr
  constructor
  · intro h
    split at h
    · cases h
    · rename_i h1
      split at h
      · cases h
      · rename_i h2
        split at h
        · rename_i h3
          simp only [Bool.not_eq_true', Bool.not_eq_false, Bool.and_eq_true, decide_eq_true_eq] at h1
          have h2' : t.any rowBad = false := by simpa using h2
          rw [List.any_eq_false] at h2'
          have h4 : ∀ r ∈ t, r ≠ [] ∧ ∀ x ∈ r, 0 ≤ x ∧ x ≤ 5 := fun r hr => rowBad_false.1 (by simpa using h2' r hr)
          refine ⟨by omega, by omega, fun r hr => (h4 r hr).1, fun x hx => ?_, h3⟩
          obtain ⟨r, hr, hx⟩ := List.mem_flatten.1 hx
          exact (h4 r hr).2 x hx
        · cases h
  · intro h
    have h1 := h.pos
    have h2 := h.num
    rw [if_neg (by simp; omega), if_neg, if_pos h.nd]
    rw [Bool.not_eq_true, List.any_eq_false]
    intro r hr
    rw [Bool.not_eq_true]
    exact rowBad_false.2 ⟨h.row r hr, fun x hx => h.val x (List.mem_flatten.2 ⟨r, hr, hx⟩)⟩
def six : List Int := [0, 1, 2, 3, 4, 5]
theorem mem_six {x : Int} : x ∈ six ↔ 0 ≤ x ∧ x ≤ 5 := by
  simp [six]; omega
theorem six_len {l : List Int} (h : l.Nodup) (hv : ∀ x ∈ l, 0 ≤ x ∧ x ≤ 5) : l.length ≤ 6 := by
  have := nodup_le h fun x hx => mem_six.2 (hv x hx)
  simpa [six] using this
theorem TabOK.len {t : Tab} (h : TabOK t) : t.flatten.length ≤ 6 := six_len h.nd h.val

/-! ### where a sound stands -/
theorem idxF_none {n : Int} : ∀ (l : List Int) (k : Nat), n ∉ l → idxF (fun x => decide (n = x)) k l = -1
  | [], k, _ => by simp [idxF]
  | x :: l, k, h => by
    simp only [List.mem_cons, not_or] at h
    rw [idxF, if_neg (by simpa using h.1)]
    exact idxF_none l (k + 1) h.2
theorem idxF_at {n : Int} : ∀ (a b : List Int) (k : Nat), n ∉ a → idxF (fun x => decide (n = x)) k (a ++ n :: b) = ((k + a.length : Nat) : Int)
  | [], b, k, _ => by simp [idxF]
  | x :: a, b, k, h => by
    simp only [List.mem_cons, not_or] at h
    rw [List.cons_append, idxF, if_neg (by simpa using h.1), idxF_at a b (k + 1) h.2]
    simp only [List.length_cons]
    omega
theorem split_at {n : Int} : ∀ {l : List Int}, n ∈ l → ∃ a b, l = a ++ n :: b ∧ n ∉ a
  | x :: l, h => by
    by_cases e : n = x
    · subst e; exact ⟨[], l, rfl, by simp⟩
    · obtain ⟨a, b, h1, h2⟩ := split_at (l := l) (by simpa [e] using h)
      exact ⟨x :: a, b, by rw [h1]; rfl, by simp [e, h2]⟩

/-- The sounds up to a row's end. -/
def preT (t : Tab) (r : Nat) : List Int := (t.take (r + 1)).flatten
def endN (t : Tab) (r : Nat) : Nat := (preT t r).length
/-- The row of each place. -/
def rowsF : Nat → Tab → List Int
  | _, [] => []
  | k, row :: t => List.replicate row.length (k : Int) ++ rowsF (k + 1) t
theorem rowsF_len : ∀ (t : Tab) (k : Nat), (rowsF k t).length = t.flatten.length
  | [], k => rfl
  | row :: t, k => by simp [rowsF, rowsF_len t (k + 1)]
theorem el_append_left {α : Type} [Inhabited α] {a b : List α} {i : Nat} (h : i < a.length) : el (a ++ b) i = el a i := by
  simp [el, List.getD_eq_getElem?_getD, List.getElem?_append_left h]
theorem el_append_right {α : Type} [Inhabited α] {a b : List α} {i : Nat} (h : a.length ≤ i) : el (a ++ b) i = el b (i - a.length) := by
  simp [el, List.getD_eq_getElem?_getD, List.getElem?_append_right h]
theorem el_replicate {α : Type} [Inhabited α] {n i : Nat} {x : α} (h : i < n) : el (List.replicate n x) i = x := by
  simp [el, List.getD_eq_getElem?_getD, h]
theorem rowsF_ge : ∀ (t : Tab) (k e : Nat), e < (rowsF k t).length → (k : Int) ≤ el (rowsF k t) e ∧ el (rowsF k t) e < k + t.length
  | [], k, e, h => by simp [rowsF] at h
  | row :: t, k, e, h => by
    by_cases h1 : e < row.length
    · rw [rowsF, el_append_left (by simpa using h1), el_replicate h1]
      simp only [List.length_cons]
      omega
    · rw [rowsF, el_append_right (by simpa using h1)]
      have := rowsF_ge t (k + 1) (e - (List.replicate row.length (k : Int)).length) (by simp [rowsF] at h ⊢; omega)
      simp only [List.length_cons]
      omega
theorem rowsF_le : ∀ (t : Tab) (k e r : Nat), e < (rowsF k t).length → (el (rowsF k t) e ≤ ((k + r : Nat) : Int) ↔ e < endN t r)
  | [], k, e, r, h => by simp [rowsF] at h
  | row :: t, k, e, r, h => by
    have e1 : endN (row :: t) r = row.length + (t.take r).flatten.length := by simp [endN, preT]
    by_cases h1 : e < row.length
    · rw [rowsF, el_append_left (by simpa using h1), el_replicate h1, e1]
      constructor <;> intro _ <;> omega
    · rw [rowsF, el_append_right (by simpa using h1), List.length_replicate, e1]
      have h2 : e - row.length < (rowsF (k + 1) t).length := by simp [rowsF] at h; omega
      match r with
      | 0 =>
        have := (rowsF_ge t (k + 1) _ h2).1
        simp only [List.take_zero, List.flatten_nil, List.length_nil]
        omega
      | r + 1 =>
        have := rowsF_le t (k + 1) (e - row.length) r h2
        rw [show k + (r + 1) = k + 1 + r by omega, this]
        simp only [endN, preT]
        omega
theorem pre_split (t : Tab) (r : Nat) : t.flatten = preT t r ++ (t.drop (r + 1)).flatten := by
  unfold preT
  rw [← List.flatten_append, List.take_append_drop]
theorem pre_take (t : Tab) (r : Nat) : t.flatten.take (endN t r) = preT t r := by
  conv => lhs; rw [pre_split t r]
  exact List.take_left' rfl
theorem endN_le (t : Tab) (r : Nat) : endN t r ≤ t.flatten.length := by
  rw [pre_split t r, List.length_append]; exact Nat.le_add_right _ _
theorem pre_succ {t : Tab} {r : Nat} (h : r + 1 < t.length) : preT t (r + 1) = preT t r ++ el t (r + 1) := by
  unfold preT
  rw [take_succ t (r + 1) h, List.flatten_append]
  simp
theorem endN_lt {t : Tab} (h : ∀ r ∈ t, r ≠ []) : ∀ {r s : Nat}, r < s → s < t.length → endN t r < endN t s
  | r, s + 1, h1, h2 => by
    have h3 : endN t s < endN t (s + 1) := by
      unfold endN
      rw [pre_succ h2, List.length_append]
      have := h _ (el_mem_of t (s + 1) h2)
      have : (el t (s + 1)).length ≠ 0 := fun e => this (List.eq_nil_of_length_eq_zero e)
      omega
    by_cases e : r = s
    · subst e; exact h3
    · exact Nat.lt_trans (endN_lt h (show r < s by omega) (by omega)) h3
theorem endN_pos {t : Tab} (h : TabOK t) (r : Nat) : 1 ≤ endN t r := by
  have h0 := h.pos
  match t, h0 with
  | row :: t, _ =>
    have := h.row row (by simp)
    have : row.length ≠ 0 := fun e => this (List.eq_nil_of_length_eq_zero e)
    simp [endN, preT]
    omega
theorem rowsF_last {t : Tab} (h : TabOK t) : el (rowsF 0 t) ((rowsF 0 t).length - 1) = (t.length : Int) - 1 := by
  have hl := rowsF_len t 0
  have h0 := h.pos
  have hp : 1 ≤ t.flatten.length := by
    have := endN_pos h 0
    have := endN_le t 0
    omega
  have hg := rowsF_ge t 0 ((rowsF 0 t).length - 1) (by omega)
  by_cases h1 : t.length = 1
  · rw [h1] at hg ⊢; omega
  · obtain ⟨n, hn⟩ : ∃ n, t.length = n + 2 := ⟨t.length - 2, by omega⟩
    have h2 := rowsF_le t 0 ((rowsF 0 t).length - 1) n (by omega)
    have h3 := endN_lt h.row (show n < n + 1 by omega) (by omega)
    have h4 := endN_le t (n + 1)
    have : ¬ (rowsF 0 t).length - 1 < endN t n := by omega
    rw [← h2] at this
    omega

/-! ### names -/
def isName (t : Tab) (s r : Int) : Bool := decide (0 ≤ r) && decide (r < t.length) && decide (s ∈ preT t r.toNat)
def segM (t : Tab) (s : Int) (r : Nat) : List Int := (preT t r).dropWhile fun x => !decide (x = s)
def standM (t : Tab) (s : Int) (r : Nat) : List Int := sortI (segM t s r)
def standE (t : Tab) (s r : Int) : List Int × Bool := if isName t s r then (standM t s r.toNat, true) else ([], false)
theorem dropWhile_at {n : Int} : ∀ (a b : List Int), n ∉ a → (a ++ n :: b).dropWhile (fun x => !decide (x = n)) = n :: b
  | [], b, _ => by simp
  | x :: a, b, h => by
    simp only [List.mem_cons, not_or] at h
    rw [List.cons_append, List.dropWhile_cons_of_pos (by simpa using fun e => h.1 e.symm)]
    exact dropWhile_at a b h.2
theorem pre_sub {t : Tab} {r : Nat} {x : Int} (h : x ∈ preT t r) : x ∈ t.flatten := by
  rw [pre_split t r]; exact List.mem_append_left _ h
theorem pre_nd {t : Tab} (h : TabOK t) (r : Nat) : (preT t r).Nodup := by
  have := h.nd
  rw [pre_split t r, List.nodup_append] at this
  exact this.1
/-- A name: where its sound stands. -/
theorem name_split {t : Tab} (h : TabOK t) {s : Int} {r : Nat} (hs : s ∈ preT t r) : ∃ a b, t.flatten = a ++ s :: b ∧ s ∉ a ∧ a.length < endN t r ∧ preT t r = a ++ s :: b.take (endN t r - a.length - 1) ∧ segM t s r = s :: b.take (endN t r - a.length - 1) := by
  obtain ⟨a, b, h1, h2⟩ := split_at hs
  refine ⟨a, b ++ (t.drop (r + 1)).flatten, ?_, h2, ?_, ?_, ?_⟩
  · conv => lhs; rw [pre_split t r, h1]
    simp
  · unfold endN; rw [h1]; simp
  · have e : endN t r - a.length - 1 = b.length := by unfold endN; rw [h1]; simp
    rw [e, List.take_left' rfl, h1]
  · have e : endN t r - a.length - 1 = b.length := by unfold endN; rw [h1]; simp
    rw [e, List.take_left' rfl, segM, h1, dropWhile_at a b h2]
theorem seg_sub {t : Tab} {s : Int} {r : Nat} {x : Int} (h : x ∈ segM t s r) : x ∈ preT t r := (List.dropWhile_sublist _).subset h
theorem seg_nd {t : Tab} (h : TabOK t) (s : Int) (r : Nat) : (segM t s r).Nodup := (List.dropWhile_sublist _).nodup (pre_nd h r)
theorem seg_val {t : Tab} (h : TabOK t) {s : Int} {r : Nat} {x : Int} (hx : x ∈ segM t s r) : 0 ≤ x ∧ x ≤ 5 := h.val x (pre_sub (seg_sub hx))
theorem seg_first {t : Tab} (h : TabOK t) {s s' : Int} {r' : Nat} {a b a' b' : List Int} (e1 : t.flatten = a ++ s :: b) (e2 : t.flatten = a' ++ s' :: b') (e3 : preT t r' = a' ++ segM t s' r') (hm : s ∈ segM t s' r') : a'.length ≤ a.length := by
  apply Classical.byContradiction
  intro hn
  have h1 : s ∈ a' := by
    have : (a ++ s :: b)[a.length]? = some s := by simp
    rw [← e1, e2, List.getElem?_append_left (by omega)] at this
    exact List.mem_of_getElem? this
  have h2 := pre_nd h r'
  rw [e3, List.nodup_append] at h2
  exact h2.2.2 s h1 s hm rfl
/-- A set is named by one name alone. -/
theorem stand_inj {t : Tab} (h : TabOK t) {s s' : Int} {r r' : Nat} (hs : s ∈ preT t r) (hs' : s' ∈ preT t r') (hr : r < t.length) (hr' : r' < t.length) (e : standM t s r = standM t s' r') : s = s' ∧ r = r' := by
  have hm : ∀ x, x ∈ segM t s r ↔ x ∈ segM t s' r' := fun x => by rw [← mem_sortI, ← mem_sortI (l := segM t s' r')]; unfold standM at e; rw [e]
  obtain ⟨a, b, e1, _, _, e4, e5⟩ := name_split h hs
  obtain ⟨a', b', f1, _, _, f4, f5⟩ := name_split h hs'
  have e6 : preT t r = a ++ segM t s r := by rw [e5]; exact e4
  have f6 : preT t r' = a' ++ segM t s' r' := by rw [f5]; exact f4
  have h1 := seg_first h e1 f1 f6 ((hm s).1 (by rw [e5]; simp))
  have h2 := seg_first h f1 e1 e6 ((hm s').2 (by rw [f5]; simp))
  have h3 : a = a' ∧ s :: b = s' :: b' := List.append_inj (e1.symm.trans f1) (by omega)
  have h4 : s = s' := by have := h3.2; simp only [List.cons.injEq] at this; exact this.1
  have h5 : (segM t s r).length = (segM t s' r').length := (perm_of_mem (seg_nd h s r) (seg_nd h s' r') hm).length_eq
  have h6 : endN t r = endN t r' := by unfold endN; rw [e6, f6, List.length_append, List.length_append, h3.1, h5]
  refine ⟨h4, ?_⟩
  rcases Nat.lt_trichotomy r r' with k | k | k
  · have := endN_lt h.row k hr'; omega
  · exact k
  · have := endN_lt h.row k hr; omega

/-! ### rows of sounds -/
def rowI (s : Int) : Nat → Tab → Int
  | _, [] => -1
  | k, row :: t => if row.contains s then (k : Int) else rowI s (k + 1) t
theorem rowI_take (s : Int) : ∀ (t : Tab) (k m : Nat), s ∈ (t.take m).flatten ↔ 0 ≤ rowI s k t ∧ rowI s k t < ((k + m : Nat) : Int)
  | [], k, m => by simp [rowI]
  | row :: t, k, 0 => by
    have h2 : ∀ (t : Tab) (k : Nat), 0 ≤ rowI s k t → (k : Int) ≤ rowI s k t := by
      intro t
      induction t with
      | nil => intro k h; simp [rowI] at h
      | cons row t ih =>
        intro k h
        rw [rowI] at h ⊢
        split
        · omega
        · rename_i hc
          rw [if_neg hc] at h
          have := ih (k + 1) h
          omega
    have := h2 (row :: t) k
    simp only [List.take_zero, List.flatten_nil, List.not_mem_nil, false_iff]
    omega
  | row :: t, k, m + 1 => by
    rw [List.take_succ_cons, List.flatten_cons, List.mem_append, rowI]
    by_cases h : s ∈ row
    · rw [if_pos (by simpa using h)]
      simp only [h, true_or, true_iff]
      omega
    · rw [if_neg (by simpa using h), rowI_take s t (k + 1) m]
      simp only [h, false_or]
      rw [show k + 1 + m = k + (m + 1) by omega]
theorem row_pre (t : Tab) (s : Int) (r : Nat) : s ∈ preT t r ↔ 0 ≤ rowI s 0 t ∧ rowI s 0 t ≤ r := by
  unfold preT
  rw [rowI_take s t 0 (r + 1)]
  omega
theorem row_mem (t : Tab) (s : Int) : s ∈ t.flatten ↔ 0 ≤ rowI s 0 t := by
  have h := rowI_take s t 0 t.length
  rw [List.take_length] at h
  rw [h]
  refine ⟨fun h => h.1, fun h1 => ⟨h1, ?_⟩⟩
  have : ∀ (t : Tab) (k : Nat), rowI s k t < ((k + t.length : Nat) : Int) := by
    intro t
    induction t with
    | nil => intro k; simp only [rowI, List.length_nil]; omega
    | cons row t ih =>
      intro k
      rw [rowI]
      split
      · simp only [List.length_cons]; omega
      · have := ih (k + 1)
        simp only [List.length_cons]; omega
  exact this t 0
theorem row_lt (t : Tab) {s : Int} (h : s ∈ t.flatten) : 0 ≤ rowI s 0 t ∧ rowI s 0 t < t.length := by
  have h1 := rowI_take s t 0 t.length
  rw [List.take_length] at h1
  have := h1.1 h
  omega
/-- The row that the program finds is the document's. -/
theorem rows_at {t : Tab} {s : Int} {a b : List Int} (hab : t.flatten = a ++ s :: b) (ha : s ∉ a) : el (rowsF 0 t) a.length = rowI s 0 t := by
  have hl := rowsF_len t 0
  have hi : a.length < (rowsF 0 t).length := by rw [hl, hab]; simp
  have hg := rowsF_ge t 0 a.length hi
  have hm : s ∈ t.flatten := by rw [hab]; simp
  have hr := row_lt t hm
  have key : ∀ r : Nat, el (rowsF 0 t) a.length ≤ r ↔ rowI s 0 t ≤ r := by
    intro r
    have h1 := rowsF_le t 0 a.length r hi
    rw [show ((0 + r : Nat) : Int) = (r : Int) by omega] at h1
    have h2 := row_pre t s r
    have h3 : s ∈ preT t r ↔ a.length < endN t r := by
      rw [← pre_take t r, hab]
      constructor
      · intro h
        apply Classical.byContradiction
        intro hn
        rw [List.take_append_of_le_length (by omega)] at h
        exact ha (List.mem_of_mem_take h)
      · intro h
        rw [List.take_append, List.mem_append]
        obtain ⟨n, hn⟩ : ∃ n, endN t r - a.length = n + 1 := ⟨endN t r - a.length - 1, by omega⟩
        rw [hn]
        simp
    rw [h1, ← h3, h2]
    omega
  have k1 := key (rowI s 0 t).toNat
  have k2 := key (el (rowsF 0 t) a.length).toNat
  omega
theorem isName_row {t : Tab} {s r : Int} : isName t s r = true ↔ s ∈ t.flatten ∧ rowI s 0 t ≤ r ∧ r < t.length := by
  unfold isName
  simp only [Bool.and_eq_true, decide_eq_true_eq]
  constructor
  · rintro ⟨⟨h1, h2⟩, h3⟩
    have := (row_pre t s r.toNat).1 h3
    exact ⟨pre_sub h3, by omega, h2⟩
  · rintro ⟨h1, h2, h3⟩
    have := row_lt t h1
    exact ⟨⟨by omega, h3⟩, (row_pre t s r.toNat).2 (by omega)⟩

theorem el_inj {o : List Int} (hn : o.Nodup) {i j : Nat} (hi : i < o.length) (hj : j < o.length) (h : el o i = el o j) : i = j := by
  rw [el_eq o i hi, el_eq o j hj] at h
  exact (List.getElem_inj hn).1 h

/-! ### the list of names -/
def rangeP (s : Int) (k n : Nat) : List (Int × Int) := (List.range' k (n - k)).map fun r : Nat => (s, (r : Int))
def namesS (t : Tab) (s : Int) : List (Int × Int) := if 0 ≤ rowI s 0 t then rangeP s (rowI s 0 t).toNat t.length else []
def namesM (t : Tab) : List (Int × Int) := six.flatMap (namesS t)
def ltN (a b : Int × Int) : Prop := a.1 < b.1 ∨ (a.1 = b.1 ∧ a.2 < b.2)
theorem mem_rangeP {s : Int} {k n : Nat} {x : Int × Int} : x ∈ rangeP s k n ↔ x.1 = s ∧ (k : Int) ≤ x.2 ∧ x.2 < n := by
  unfold rangeP
  rw [List.mem_map]
  constructor
  · rintro ⟨r, hr, rfl⟩
    rw [List.mem_range'_1] at hr
    exact ⟨rfl, by dsimp only; omega, by dsimp only; omega⟩
  · rintro ⟨h1, h2, h3⟩
    refine ⟨x.2.toNat, ?_, ?_⟩
    · rw [List.mem_range'_1]; omega
    · obtain ⟨y, z⟩ := x
      dsimp only at h1 h2 h3 ⊢
      subst h1
      rw [Int.toNat_of_nonneg (by omega)]
theorem rangeP_sorted (s : Int) (k n : Nat) : (rangeP s k n).Pairwise ltN := by
  unfold rangeP
  rw [List.pairwise_map]
  refine (List.pairwise_lt_range' (s := k) (n := n - k)).imp fun {a b} h => ?_
  exact Or.inr ⟨rfl, by dsimp only; omega⟩
theorem mem_namesS {t : Tab} {s : Int} {x : Int × Int} : x ∈ namesS t s ↔ x.1 = s ∧ isName t s x.2 = true := by
  unfold namesS
  rw [isName_row, row_mem]
  split
  · rename_i h
    rw [mem_rangeP]
    constructor
    · rintro ⟨h1, h2, h3⟩; exact ⟨h1, h, by omega, h3⟩
    · rintro ⟨h1, _, h2, h3⟩; exact ⟨h1, by omega, h3⟩
  · rename_i h
    simp [h]
theorem mem_namesM {t : Tab} (h : TabOK t) {s r : Int} : (s, r) ∈ namesM t ↔ isName t s r = true := by
  unfold namesM
  rw [List.mem_flatMap]
  constructor
  · rintro ⟨s', _, h2⟩
    obtain ⟨rfl, h3⟩ := mem_namesS.1 h2
    exact h3
  · intro hn
    exact ⟨s, mem_six.2 (h.val s (isName_row.1 hn).1), mem_namesS.2 ⟨rfl, hn⟩⟩
theorem namesM_sorted (t : Tab) : (namesM t).Pairwise ltN := by
  unfold namesM
  rw [List.pairwise_flatMap]
  refine ⟨fun s _ => ?_, ?_⟩
  · unfold namesS
    split
    · exact rangeP_sorted _ _ _
    · exact List.Pairwise.nil
  · have : six.Pairwise (· < ·) := by decide
    refine this.imp fun {a b} hab x hx y hy => .inl ?_
    rw [(mem_namesS.1 hx).1, (mem_namesS.1 hy).1]
    exact hab
theorem ltN_nodup {l : List (Int × Int)} (h : l.Pairwise ltN) : l.Nodup := h.imp fun {a b} hab e => by
  subst e
  rcases hab with h | h
  · omega
  · omega
/-- The program's list of names, ahead of the sort. -/
def allF (n : Nat) : List Int → List Int → List (Int × Int)
  | s :: l, r :: m => rangeP s r.toNat n ++ allF n l m
  | _, _ => []
def allM (t : Tab) : List (Int × Int) := allF t.length t.flatten (rowsF 0 t)
theorem mem_allF {n : Nat} {x : Int × Int} : ∀ {l m : List Int}, l.length = m.length → (∀ r ∈ m, 0 ≤ r) → (x ∈ allF n l m ↔ ∃ i, i < l.length ∧ el l i = x.1 ∧ el m i ≤ x.2 ∧ x.2 < n)
  | [], [], _, _ => by simp [allF]
  | s :: l, r :: m, h, hm => by
    rw [allF, List.mem_append, mem_rangeP, mem_allF (by simpa using h) fun r hr => hm r (by simp [hr])]
    have h0 := hm r (by simp)
    constructor
    · rintro (⟨h1, h2, h3⟩ | ⟨i, h1, h2, h3⟩)
      · exact ⟨0, by simp, by simp [el, h1], by simp [el]; omega, h3⟩
      · exact ⟨i + 1, by simpa using h1, by simpa [el] using h2, by simpa [el] using h3⟩
    · rintro ⟨i, h1, h2, h3, h4⟩
      match i with
      | 0 => simp [el] at h2 h3; exact .inl ⟨h2.symm, by omega, h4⟩
      | i + 1 => exact .inr ⟨i, by simpa using h1, by simpa [el] using h2, by simpa [el] using h3, h4⟩
theorem allF_nodup {n : Nat} : ∀ {l m : List Int}, l.Nodup → (allF n l m).Nodup
  | [], _, _ => by simp [allF]
  | s :: l, [], _ => by simp [allF]
  | s :: l, r :: m, h => by
    rw [List.nodup_cons] at h
    rw [allF, List.nodup_append]
    refine ⟨ltN_nodup (rangeP_sorted _ _ _), allF_nodup h.2, fun x hx y hy e => ?_⟩
    subst e
    have h1 := (mem_rangeP.1 hx).1
    have h2 : ∀ {l m : List Int}, x ∈ allF n l m → x.1 ∈ l := by
      intro l
      induction l with
      | nil => intro m h; simp [allF] at h
      | cons s l ih =>
        intro m h
        cases m with
        | nil => simp [allF] at h
        | cons r m =>
          rw [allF, List.mem_append] at h
          rcases h with h | h
          · simp [(mem_rangeP.1 h).1]
          · simp [ih h]
    have := h2 hy
    rw [h1] at this
    exact h.1 this
theorem el_flat_pre {t : Tab} (h : TabOK t) {i r : Nat} (hi : i < t.flatten.length) : el t.flatten i ∈ preT t r ↔ i < endN t r := by
  have hs := el_mem_of t.flatten i hi
  obtain ⟨a, b, hab, ha⟩ := split_at hs
  have hi2 : i = a.length := by
    refine el_inj h.nd hi (by rw [hab]; simp) ?_
    conv => rhs; rw [hab, el_append_right (Nat.le_refl _)]
    simp [el]
  rw [← pre_take t r]
  subst hi2
  generalize el t.flatten a.length = s at *
  rw [hab]
  constructor
  · intro h
    apply Classical.byContradiction
    intro hn
    rw [List.take_append_of_le_length (by omega)] at h
    exact ha (List.mem_of_mem_take h)
  · intro h
    rw [List.take_append, List.mem_append]
    obtain ⟨n, hn⟩ : ∃ n, endN t r - a.length = n + 1 := ⟨endN t r - a.length - 1, by omega⟩
    rw [hn]
    simp
theorem rowsF_nn (t : Tab) : ∀ r ∈ rowsF 0 t, 0 ≤ r := by
  intro r hr
  obtain ⟨i, hi, rfl⟩ := List.getElem_of_mem hr
  have := (rowsF_ge t 0 i hi).1
  simp only [el, List.getD_eq_getElem?_getD, List.getElem?_eq_getElem hi, Option.getD_some] at this
  omega
theorem mem_allM {t : Tab} (h : TabOK t) {x : Int × Int} : x ∈ allM t ↔ isName t x.1 x.2 = true := by
  unfold allM
  rw [mem_allF (rowsF_len t 0).symm (rowsF_nn t)]
  constructor
  · rintro ⟨i, h1, h2, h3, h4⟩
    have h0 := (rowsF_ge t 0 i (by rw [rowsF_len]; exact h1)).1
    have h5 := rowsF_le t 0 i x.2.toNat (by rw [rowsF_len]; exact h1)
    unfold isName
    simp only [Bool.and_eq_true, decide_eq_true_eq]
    refine ⟨⟨by omega, h4⟩, ?_⟩
    rw [← h2, el_flat_pre h h1, ← h5]
    omega
  · intro hn
    obtain ⟨h1, h2, h3⟩ := isName_row.1 hn
    obtain ⟨a, b, hab, ha⟩ := split_at h1
    refine ⟨a.length, by rw [hab]; simp, ?_, by rw [rows_at hab ha]; exact h2, h3⟩
    rw [hab, el_append_right (Nat.le_refl _)]
    simp [el]
theorem names_perm {t : Tab} (h : TabOK t) : (allM t).Perm (namesM t) :=
  perm_of_mem (allF_nodup h.nd) (ltN_nodup (namesM_sorted t)) fun x => by
    rw [mem_allM h]
    obtain ⟨s, r⟩ := x
    exact (mem_namesM h).symm

/-! ### classes -/
def setsM (t : Tab) : List (List Int) := (namesM t).map fun n => standM t n.1 n.2.toNat
def classesM (t : Tab) : List (List Int) := uniq (setsM t)
theorem mem_classes {t : Tab} (h : TabOK t) {x : List Int} : x ∈ classesM t ↔ ∃ s r, r < t.length ∧ s ∈ preT t r ∧ x = standM t s r := by
  unfold classesM setsM
  rw [(uniq_sorted _).2, List.mem_map]
  constructor
  · rintro ⟨⟨s, r⟩, h1, rfl⟩
    have h2 := (mem_namesM h).1 h1
    unfold isName at h2
    simp only [Bool.and_eq_true, decide_eq_true_eq] at h2
    exact ⟨s, r.toNat, by omega, h2.2, rfl⟩
  · rintro ⟨s, r, h1, h2, rfl⟩
    refine ⟨(s, (r : Int)), (mem_namesM h).2 ?_, rfl⟩
    unfold isName
    simp only [Bool.and_eq_true, decide_eq_true_eq]
    exact ⟨⟨by omega, by omega⟩, h2⟩
theorem name_of {t : Tab} {s r : Int} (h : isName t s r = true) : 0 ≤ r ∧ r.toNat < t.length ∧ s ∈ preT t r.toNat := by
  unfold isName at h
  simp only [Bool.and_eq_true, decide_eq_true_eq] at h
  exact ⟨h.1.1, by omega, h.2⟩
theorem uniq_len {l : List (List Int)} (h : l.Nodup) : (uniq l).length = l.length := by
  obtain ⟨h1, h2⟩ := uniq_sorted l
  refine (perm_of_mem ?_ h h2).length_eq
  exact List.Pairwise.imp (fun {a b} hab e => by subst e; rw [bef_irr] at hab; cases hab) h1
theorem sets_nodup {t : Tab} (h : TabOK t) : (setsM t).Nodup := by
  unfold setsM
  have h1 := namesM_sorted t
  have h2 : ∀ x ∈ namesM t, isName t x.1 x.2 = true := fun x hx => (mem_namesM h).1 hx
  generalize namesM t = l at h1 h2
  induction l with
  | nil => simp
  | cons x l ih =>
    rw [List.pairwise_cons] at h1
    rw [List.map_cons, List.nodup_cons]
    refine ⟨fun hx => ?_, ih h1.2 fun y hy => h2 y (by simp [hy])⟩
    obtain ⟨y, hy, e⟩ := List.mem_map.1 hx
    obtain ⟨a1, a2, a3⟩ := name_of (h2 x (by simp))
    obtain ⟨b1, b2, b3⟩ := name_of (h2 y (by simp [hy]))
    obtain ⟨c1, c2⟩ := stand_inj h b3 a3 b2 a2 e
    have := h1.1 y hy
    unfold ltN at this
    omega
theorem classes_len {t : Tab} (h : TabOK t) : (classesM t).length = (namesM t).length := by
  unfold classesM
  rw [uniq_len (sets_nodup h), setsM, List.length_map]

/-! ### the document's order of a set -/
def srtM (l : List Int) : List Int := six.filter fun n => l.contains n
theorem srtM_eq {l : List Int} (h : l.Nodup) (hv : ∀ x ∈ l, 0 ≤ x ∧ x ≤ 5) : sortI l = srtM l := by
  refine sortI_of_mem h ?_ fun x => ?_
  · exact List.Pairwise.sublist (List.filter_sublist) (show six.Pairwise (· < ·) by decide)
  · unfold srtM
    rw [List.mem_filter, mem_six]
    simp only [List.contains_iff_mem]
    exact ⟨fun hx => ⟨hv x hx, hx⟩, fun hx => hx.2⟩
end Go.Proofs.YtphkchjhghdhiaaGreat
end
