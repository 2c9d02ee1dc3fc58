/- Part 4 of the proof: the value layer and the contracts of the functions that the statement reaches; proved without conditions beyond those each theorem states. -/
import Derived.Shelf.SlSortCmp.WholeK
import Derived.Test.YtgfgkfkplidncaaGreatProg
import Derived.Test.YtgfgkfkplidncaaGreatV2
import Derived.Test.YtgfgkfkplidncaaGreatV3
set_option linter.unusedSimpArgs false
set_option linter.unusedVariables false

section
/- The library's sort of names (structs of two numbers), over a lent box. -/
namespace Go.Proofs.YtgfgkfkplidncaaGreat
open Go.Abs Go

@[simp] def pairV (x : Int × Int) : AV := .agg [iv x.1, iv x.2]
/-- How two names compare. -/
def cmpN (a b : Int × Int) : Int := if cmpI a.1 b.1 ≠ 0 then cmpI a.1 b.1 else cmpI a.2 b.2
section
open Go.Sort Go.Shelf
variable {P : Program} {ρ : Ren}
def encN (x : Int × Int) : List Value := [.int .i64 x.1, .int .i64 x.2]
theorem cmpN_lt (a b : Int × Int) : ltOf cmpN a b = !leNB b a := by
  unfold ltOf cmpN cmpI leNB
  rw [Bool.eq_iff_iff]
  simp only [decide_eq_true_eq, Bool.not_eq_true', Bool.or_eq_false_iff, Bool.and_eq_false_iff, decide_eq_false_iff_not]
  by_cases h1 : a.1 < b.1
  · simp [h1] <;> omega
  · by_cases h2 : b.1 < a.1
    · simp [h1, h2]
    · by_cases h3 : a.2 < b.2
      · simp [h1, h2, h3] <;> omega
      · by_cases h4 : b.2 < a.2
        · simp [h1, h2, h3, h4] <;> omega
        · simp [h1, h2, h3, h4] <;> omega
theorem cmpN_swo : SWO (ltOf cmpN) := by
  refine ⟨fun x => ?_, fun x y z h1 h2 => ?_, fun x y z h1 h2 => ?_⟩
  · rw [cmpN_lt]; simp [leNB]
  · rw [cmpN_lt] at *
    simp only [leNB, Bool.not_eq_true', Bool.or_eq_false_iff, Bool.and_eq_false_iff, decide_eq_false_iff_not] at *
    omega
  · rw [cmpN_lt] at *
    simp only [leNB, Bool.not_eq_false', Bool.or_eq_true, Bool.and_eq_true, decide_eq_true_eq] at *
    omega
theorem flatN_get (d : Array (Int × Int)) (i : Nat) (h : i < d.size) : (flatK encN 2 d)[2 * i]! = .int .i64 (d[i]!).1 ∧ (flatK encN 2 d)[2 * i + 1]! = .int .i64 (d[i]!).2 := by
  refine ⟨?_, ?_⟩
  · rw [get_flatK _ _ _ _ (by omega), show 2 * i / 2 = i by omega, show 2 * i % 2 = 0 by omega]; rfl
  · rw [get_flatK _ _ _ _ (by omega), show (2 * i + 1) / 2 = i by omega, show (2 * i + 1) % 2 = 1 by omega]; rfl
theorem rep_pair {w : World} {Y : Nat → Prop} {μ : Mu} {x : Int × Int} {c : Array Value} {o : Nat} : Rep w Y μ (pairV x) (elemVal (pairV x) 2 c o) → c.getD o undef = .int .i64 x.1 ∧ c.getD (o + 1) undef = .int .i64 x.2 := by
  intro h
  simp only [pairV, elemVal] at h
  generalize hv : Value.agg (c.extract o (o + 2)) = v at h
  cases h with
  | agg hs h1 h2 =>
    cases hv
    have a0 := h2 0 (by simp)
    have a1 := h2 1 (by simp)
    have b0 := a0.one.1
    have b1 := a1.one.1
    have hsz : (c.extract o (o + 2)).size = 2 := by simpa using hs
    rw [Array.size_extract] at hsz
    have e0 : (c.extract o (o + 2)).getD 0 undef = c.getD o undef := by
      simp [Array.getD, Array.size_extract, show 0 < min (o + 2) c.size - o by omega, show o < c.size by omega]
    have e1 : (c.extract o (o + 2)).getD 1 undef = c.getD (o + 1) undef := by
      simp [Array.getD, Array.size_extract, show 1 < min (o + 2) c.size - o by omega, show o + 1 < c.size by omega]
    rw [e0] at b0
    rw [e1] at b1
    exact ⟨b0, b1⟩
theorem pair_rep {w : World} {Y : Nat → Prop} {μ : Mu} {x : Int × Int} {c : Array Value} {o : Nat} (ho : o + 2 ≤ c.size) (h0 : c.getD o undef = .int .i64 x.1) (h1 : c.getD (o + 1) undef = .int .i64 x.2) : Rep w Y μ (pairV x) (elemVal (pairV x) 2 c o) := by
  have e0 : (c.extract o (o + 2)).getD 0 undef = c.getD o undef := by
    simp [Array.getD, Array.size_extract, show 0 < min (o + 2) c.size - o by omega, show o < c.size by omega]
  have e1 : (c.extract o (o + 2)).getD 1 undef = c.getD (o + 1) undef := by
    simp [Array.getD, Array.size_extract, show 1 < min (o + 2) c.size - o by omega, show o + 1 < c.size by omega]
  refine .agg (by simp; omega) (fun i hi => ?_) (fun i hi => ?_)
  · match i, hi with
    | 0, _ => rw [e0, h0]; rfl
    | 1, _ => rw [e1, h1]; rfl
  · match i, hi with
    | 0, _ => rw [e0, h0]; exact .raw rfl
    | 1, _ => rw [e1, h1]; exact .raw rfl
theorem callL_sortN (L : SlLaysF0.n6 P ρ) (aE : ∀ w, (isAgg (ρ.t 24)).run P w = .ok true w) (zE : ∀ w, (Go.sizeOf (ρ.t 24)).run P w = .ok 2 w) {g : FuncId} (hg : ∀ a b : Int × Int, CallP P g [pairV a, pairV b] (iv (cmpN a b))) (d : List (Int × Int)) :
    CallL P (ρ.f 6) [] 2 (d.map pairV) [.fn g [] []] (.val (.tup [])) ((sortN d).map pairV) := by
  have hsl : (sortN d).length = d.length := (sortN_perm d).length_eq
  refine ⟨?_, fun w X l vs hv hsz hX hXl hh hlen hargs => ?_⟩
  · obtain ⟨nm, hn, hf⟩ := L.f6
    exact ⟨_, hf, by simpa using hn, by simp [SlBodyF.n6]⟩
  obtain ⟨v0, v1, rfl⟩ : ∃ v0 v1, vs = #[v0, v1] := by
    cases vs with
    | mk l =>
      match l, hlen with
      | [a, b], _ => exact ⟨a, b, rfl⟩
  have h0 : Rep w (Yof X (mu1 l)) (mu1 l) (.sl lid 0 0 (d.map pairV).length) v0 := hargs 0 (by simp)
  have h1 : Rep w (Yof X (mu1 l)) (mu1 l) (.fn g [] []) v1 := hargs 1 (by simp)
  generalize hn : (d.map pairV).length = n at h0
  simp only [List.length_map] at hn
  cases h1 with
  | @fn _ _ _ _ fs cs hs ht _ _ =>
  obtain rfl : fs = #[] := Array.eq_empty_of_size_eq_zero hs
  obtain rfl : cs = #[] := Array.eq_empty_of_size_eq_zero ht
  cases h0 with
  | slOld hm hv' =>
    simp only [mu1, if_true, Option.some.injEq] at hm
    subst hm
    omega
  | slNil hm hv' =>
    obtain rfl : d = [] := List.eq_nil_of_length_eq_zero hn
    refine (AnyF.slices_SortFunc_none (P := P) (ρ := ρ) { L with } _ 0 _ w).mono fun e w' ⟨he, hw⟩ => ?_
    subst hw
    exact ⟨_, he, Ext.refl _ _, by simpa [sortN] using hh, .tup rfl fun i hi => absurd hi (by simp)⟩
  | @sl _ _ _ _ _ cap loc g0 n0 hm hv' hb hc hfit hz =>
    simp only [mu1, if_true, Option.some.injEq] at hm
    subst hm
    subst hn
    obtain ⟨hbig, hh⟩ := hh
    rw [hb] at hh
    obtain ⟨c, el, hheap, hcs, hlen', hone, hrep⟩ := hh.1 (by simp)
    rw [hsz] at hfit
    simp only [Nat.zero_mul, Nat.add_zero, Nat.zero_add, List.length_map, hsz] at hfit hlen' hbig ⊢
    let Y : Nat → Prop := Yof X (mu1 l)
    have hY0 : Y g0 := .inr (blks_mu1.2 ⟨n0, hb⟩)
    have hYlt : ∀ b, Y b → b < w.heap.size := by
      rintro b (hx | hx)
      · exact hX b hx
      · obtain ⟨n, hn⟩ := blks_mu1.1 hx
        rw [hb] at hn
        simp only [Option.some.injEq, Prod.mk.injEq] at hn
        rw [← hn.1]
        exact lt_of_heap hheap
    have hcell : ∀ i, i < d.length → c.getD (l.base + i * 2) undef = .int .i64 (Go.Abs.el d i).1 ∧ c.getD (l.base + i * 2 + 1) undef = .int .i64 (Go.Abs.el d i).2 := by
      intro i hi
      have := (hrep i (by simpa using hi)).2
      have e : (List.map pairV d).getD i .junk = pairV (Go.Abs.el d i) := nth_map pairV d i hi
      rw [e] at this
      exact rep_pair this
    let arr : Array (Int × Int) := d.toArray
    have harr : arr.size = d.length := by simp [arr]
    have hget : ∀ i, i < d.length → arr[i]! = Go.Abs.el d i := by
      intro i hi
      rw [getElem!_pos arr i (by rw [harr]; exact hi), el_eq d i hi]
      simp [arr]
    have hkey := AnyQ.slices_SortFunc L 2 aE zE encN (fun _ => rfl) (fun x v hv => by simp only [encN, List.mem_cons, List.not_mem_nil, or_false] at hv; rcases hv with rfl | rfl <;> rfl) cmpN cmpN_swo g #[] g0 l.base cap arr w ?_ ?_ ?_ (lt_of_heap hheap) ?_
    · rw [harr] at hkey
      refine hkey.mono fun e w' ⟨he, d', n, os, hp, hs, hw⟩ => ?_
      obtain ⟨hp1, _, hp2⟩ := hp
      rw [harr] at hp1
      have hd' : d'.toList = sortN d := by
        symm
        refine sortN_eq ?_ ?_
        · have e1 : d'.extract 0 d.length = d' := by rw [← hp1]; exact Array.extract_size
          have e2 : arr.extract 0 d.length = arr := by rw [← harr]; exact Array.extract_size
          rw [e1, e2] at hp2
          exact hp2.symm
        · rw [List.pairwise_iff_getElem]
          intro i j hi hj hij
          have := hs i j (Nat.zero_le _) hij (by simpa [hp1] using hj)
          rw [cmpN_lt, getElem!_pos d' j (by simpa using hj), getElem!_pos d' i (by simpa using hi)] at this
          simpa using this
      have hw2 : w' = Go.Proofs.sortWorld id w g0 l.base n (flatK encN 2 d') os := hw
      subst hw2
      refine ⟨_, he, ⟨⟨rfl, ?_⟩, rfl, rfl, sortWorld_size, fun b hlt hno => sortWorld_other hlt ?_⟩, ⟨by simpa [hsl] using hbig, ?_⟩, .tup rfl fun i hi => absurd hi (by simp)⟩
      · exact Nat.le_add_right _ _
      · rintro rfl
        exact hno (blks_mu1.2 ⟨n0, hb⟩)
      · rw [hb]
        refine ⟨fun _ => ⟨_, el, sortWorld_at hheap, by simpa [Go.Sort.putCells] using hcs, by simpa [hsl] using hlen', fun j hj => ?_, fun i hi => ?_⟩, fun h => by cases h⟩
        · rw [putCells_getD (by omega)]
          split
          · rename_i hr
            rw [size_flatK, hp1] at hr
            have hq : j - l.base = 2 * ((j - l.base) / 2) ∨ j - l.base = 2 * ((j - l.base) / 2) + 1 := by omega
            have hlt : (j - l.base) / 2 < d'.size := by omega
            obtain ⟨q1, q2⟩ := flatN_get d' _ hlt
            rcases hq with e | e
            · rw [e, q1]; rfl
            · rw [e, q2]; rfl
          · exact hone j hj
        · have hi' : i < d.length := by simpa [hsl] using hi
          have hi2 : i < d'.size := by omega
          have e3 : (List.map pairV (sortN d)).getD i .junk = pairV (d'[i]!) := by
            rw [show (List.map pairV (sortN d)).getD i .junk = pairV (Go.Abs.el (sortN d) i) from nth_map pairV _ i (by omega), ← hd', el_eq _ _ (by simpa using hi2), getElem!_pos d' i hi2]
            simp
          rw [e3]
          have hlt : l.base + i * 2 + 1 < c.size := by omega
          have hlt0 : l.base + i * 2 < c.size := by omega
          refine ⟨rfl, pair_rep (by simpa [Go.Sort.putCells] using (by omega : l.base + i * 2 + 2 ≤ c.size)) ?_ ?_⟩
          · rw [putCells_getD hlt0, if_pos ⟨by omega, by rw [size_flatK]; omega⟩, show l.base + i * 2 - l.base = 2 * i by omega]
            exact (flatN_get d' i hi2).1
          · rw [putCells_getD hlt, if_pos ⟨by omega, by rw [size_flatK]; omega⟩, show l.base + i * 2 + 1 - l.base = 2 * i + 1 by omega]
            exact (flatN_get d' i hi2).2
    · intro args w1
      obtain ⟨fn, hf, hname, hbody⟩ := (hg (0, 0) (0, 0)).1
      cases hb2 : fn.body with
      | none => exact absurd hb2 hbody
      | some code => exact enters_of hf (by simpa using hname) hb2 args w1
    · intro m os dk hdk x y
      refine ((hg x y).2 _ Y _ (fun b hb' => Nat.lt_of_lt_of_le (hYlt b hb') (sortWorld_size (enc := id) (dk := flatK encN 2 dk))) rfl fun i hi => ?_).mono ?_
      · match i, hi with
        | 0, _ => exact .agg rfl (fun i hi => by match i, hi with | 0, _ => rfl | 1, _ => rfl) (fun i hi => by match i, hi with | 0, _ => exact .raw rfl | 1, _ => exact .raw rfl)
        | 1, _ => exact .agg rfl (fun i hi => by match i, hi with | 0, _ => rfl | 1, _ => rfl) (fun i hi => by match i, hi with | 0, _ => exact .raw rfl | 1, _ => exact .raw rfl)
      · rintro e w' ⟨v, he, hgw, hr⟩
        obtain ⟨rfl, _⟩ := hr.one
        exact ⟨he, _, _, grows_eq hgw⟩
    · intro j hj
      rw [size_flatK, harr] at hj
      have hlt : l.base + j < c.size := by omega
      have hq : j = 2 * (j / 2) ∨ j = 2 * (j / 2) + 1 := by omega
      have hlt2 : j / 2 < arr.size := by omega
      obtain ⟨q1, q2⟩ := flatN_get arr _ hlt2
      obtain ⟨c1, c2⟩ := hcell (j / 2) (by omega)
      have hcv : c.getD (l.base + j) undef = (flatK encN 2 arr)[j]! := by
        rcases hq with e | e
        · rw [e, q1, hget _ (by omega), ← e, show l.base + j = l.base + j / 2 * 2 by omega]; exact c1
        · rw [e, q2, hget _ (by omega), show l.base + (2 * (j / 2) + 1) = l.base + j / 2 * 2 + 1 by omega]; exact c2
      refine ⟨?_, ?_⟩
      · unfold World.cell?
        simp only [hheap]
        rw [← hcv]
        simp [Array.getD, hlt]
      · unfold World.frozen?
        simp [hheap]
    · rw [harr]
      simp only [big] at hbig
      omega
end
end Go.Proofs.YtgfgkfkplidncaaGreat
end

section
/- The library's sort of names at this program: where its functions and types stand (written by the kit's tool lay-plain), and its contract. -/
namespace Go.Proofs.YtgfgkfkplidncaaGreat
open Go.Abs Go Go.Shelf
def lsortN_ren : Go.Shelf.Ren := ⟨fun | 6 => 87 | 15 => 105 | 14 => 107 | 28 => 121 | 29 => 122 | 20 => 125 | 21 => 126 | 22 => 127 | 23 => 128 | 24 => 129 | 25 => 130 | 26 => 131 | 27 => 132 | 46 => 148 | 47 => 144 | 48 => 145 | 49 => 149 | 50 => 150 | 57 => 155 | n => n, fun | 22 => 94 | 24 => 95 | 25 => 97 | 3 => 3 | 39 => 113 | 0 => 0 | 53 => 130 | 55 => 132 | 4 => 4 | 46 => 123 | 45 => 122 | 50 => 127 | 5 => 5 | 9 => 9 | 66 => 148 | 70 => 152 | 76 => 158 | 77 => 105 | n => n, fun | n => n⟩
theorem lsortN : Go.Proofs.SlLaysF0.n6 Tryz.prog lsortN_ren := {
  mixed := by kernel_rfl
  f6 := ⟨Tryz.f87.name, by decide, Tryz.func87.trans (congrArg some (by kernel_rfl))⟩
  f14 := ⟨Tryz.f107.name, by decide, Tryz.func107.trans (congrArg some (by kernel_rfl))⟩
  f15 := Tryz.func105.trans (congrArg some (by kernel_rfl))
  f20 := ⟨Tryz.f125.name, by decide, Tryz.func125.trans (congrArg some (by kernel_rfl))⟩
  f21 := ⟨Tryz.f126.name, by decide, Tryz.func126.trans (congrArg some (by kernel_rfl))⟩
  f22 := ⟨Tryz.f127.name, by decide, Tryz.func127.trans (congrArg some (by kernel_rfl))⟩
  f23 := ⟨Tryz.f128.name, by decide, Tryz.func128.trans (congrArg some (by kernel_rfl))⟩
  f24 := ⟨Tryz.f129.name, by decide, Tryz.func129.trans (congrArg some (by kernel_rfl))⟩
  f25 := ⟨Tryz.f130.name, by decide, Tryz.func130.trans (congrArg some (by kernel_rfl))⟩
  f26 := ⟨Tryz.f131.name, by decide, Tryz.func131.trans (congrArg some (by kernel_rfl))⟩
  f27 := ⟨Tryz.f132.name, by decide, Tryz.func132.trans (congrArg some (by kernel_rfl))⟩
  f28 := Tryz.func121.trans (congrArg some (by kernel_rfl))
  f29 := Tryz.func122.trans (congrArg some (by kernel_rfl))
  f46 := ⟨Tryz.f148.name, by decide, Tryz.func148.trans (congrArg some (by kernel_rfl))⟩
  f47 := Tryz.func144.trans (congrArg some (by kernel_rfl))
  f48 := Tryz.func145.trans (congrArg some (by kernel_rfl))
  f49 := ⟨Tryz.f149.name, by decide, Tryz.func149.trans (congrArg some (by kernel_rfl))⟩
  f50 := ⟨Tryz.f150.name, by decide, Tryz.func150.trans (congrArg some (by kernel_rfl))⟩
  f57 := ⟨Tryz.f155.name, by decide, Tryz.func155.trans (congrArg some (by kernel_rfl))⟩
  t0 := Tryz.underlying0
  a0 := Tryz.isAgg0
  z0 := Tryz.sizeOf0
  v0 := Tryz.zeroValue0
  t3 := Tryz.underlying3
  a3 := Tryz.isAgg3
  z3 := Tryz.sizeOf3
  v3 := Tryz.zeroValue3
  t4 := Tryz.underlying4
  a4 := Tryz.isAgg4
  z4 := Tryz.sizeOf4
  v4 := Tryz.zeroValue4
  t5 := Tryz.underlying5
  a5 := Tryz.isAgg5
  z5 := Tryz.sizeOf5
  v5 := Tryz.zeroValue5
  t9 := Tryz.underlying9
  a9 := Tryz.isAgg9
  z9 := Tryz.sizeOf9
  v9 := Tryz.zeroValue9
  t22 := Tryz.underlying94
  a22 := Tryz.isAgg94
  z22 := Tryz.sizeOf94
  v22 := Tryz.zeroValue94
  t25 := Tryz.underlying97
  a25 := Tryz.isAgg97
  z25 := Tryz.sizeOf97
  v25 := Tryz.zeroValue97
  t39 := Tryz.underlying113
  a39 := Tryz.isAgg113
  z39 := Tryz.sizeOf113
  v39 := Tryz.zeroValue113
  t45 := Tryz.underlying122
  a45 := Tryz.isAgg122
  z45 := Tryz.sizeOf122
  v45 := Tryz.zeroValue122
  t46 := Tryz.underlying123
  a46 := Tryz.isAgg123
  z46 := Tryz.sizeOf123
  v46 := Tryz.zeroValue123
  t50 := Tryz.underlying127
  a50 := Tryz.isAgg127
  z50 := Tryz.sizeOf127
  v50 := Tryz.zeroValue127
  t53 := Tryz.underlying130
  a53 := Tryz.isAgg130
  z53 := Tryz.sizeOf130
  v53 := Tryz.zeroValue130
  t55 := Tryz.underlying132
  a55 := Tryz.isAgg132
  z55 := Tryz.sizeOf132
  v55 := Tryz.zeroValue132
  t66 := Tryz.underlying148
  a66 := Tryz.isAgg148
  z66 := Tryz.sizeOf148
  v66 := Tryz.zeroValue148
  t70 := Tryz.underlying152
  a70 := Tryz.isAgg152
  z70 := Tryz.sizeOf152
  v70 := Tryz.zeroValue152
  t76 := Tryz.underlying158
  a76 := Tryz.isAgg158
  z76 := Tryz.sizeOf158
  v76 := Tryz.zeroValue158
  t77 := Tryz.underlying105
  a77 := Tryz.isAgg105
  z77 := Tryz.sizeOf105
  v77 := Tryz.zeroValue105 }
end Go.Proofs.YtgfgkfkplidncaaGreat
end

section
/- Contracts: the library's sorts at this program. -/
namespace Go.Proofs.YtgfgkfkplidncaaGreat
open Go.Abs Go
set_option maxRecDepth 20000
set_option maxHeartbeats 2000000
attribute [local irreducible] PreK CondK CallK CallG CallX LoopK
attribute [local simp] avsEq avEq akind teq vkind vEq

theorem sortI_L (l : List Int) : CallL Tryz.prog 83 [] 1 (l.map iv) [] (.val (.tup [])) ((sortI l).map iv) := callL_sortI lsortI l
theorem sortW_L (l : List (List Int)) : CallL Tryz.prog 92 [] 1 (l.map ints) [.fn 93 [] []] (.val (.tup [])) ((sortW l).map ints) := callL_sort lsort Compare_c l
theorem or_c (a b : Int) : CallP Tryz.prog 108 [ints [a, b]] (iv (if a ≠ 0 then a else b)) := by
  refine C108 (by simp) ?_
  simp [A108]
  refine LoopK.by (ι := Nat) (fun i => ⟨[(8, iv i), (7, iv 2), (6, ints [a, b]), (3, iv 0)], []⟩) (fun i => 2 - i) (fun i => i ≤ 2 ∧ (1 ≤ i → a = 0) ∧ (2 ≤ i → b = 0)) 0 ⟨by omega, by omega, by omega⟩ (by simp) ?_
  intro i Q' ⟨hi, h1, h2⟩ hq he hr
  match i, hi with
  | 0, _ =>
    try simp 
    refine CondK.tt ?_
    try simp 
    repeat (refine PreK.intro (by first | omega | (intros; first | omega | (refine ⟨by omega, ?_⟩; simp_all; done) | (simp_all; done) | (simp_all; omega))) fun _ => ?_; (try simp ))
    refine CondK.intro (fun h3 => ?_) (fun h3 => ?_)
    · simp at h3
      try simp 
      apply hr
      simp [h3]
    · simp at h3
      repeat (refine PreK.intro (by first | omega | (intros; first | omega | (refine ⟨by omega, ?_⟩; simp_all; done) | (simp_all; done) | (simp_all; omega))) fun _ => ?_; (try simp ))
      exact hq 1 _ ⟨by omega, fun _ => h3, by omega⟩ (by omega) (by simp)
  | 1, _ =>
    have h1 := h1 (by omega)
    subst h1
    try simp 
    refine CondK.tt ?_
    try simp 
    repeat (refine PreK.intro (by first | omega | (intros; first | omega | (refine ⟨by omega, ?_⟩; simp_all; done) | (simp_all; done) | (simp_all; omega))) fun _ => ?_; (try simp ))
    refine CondK.intro (fun h3 => ?_) (fun h3 => ?_)
    · simp at h3
      try simp 
      apply hr
      simp [h3]
    · simp at h3
      repeat (refine PreK.intro (by first | omega | (intros; first | omega | (refine ⟨by omega, ?_⟩; simp_all; done) | (simp_all; done) | (simp_all; omega))) fun _ => ?_; (try simp ))
      exact hq 2 _ ⟨by omega, fun _ => rfl, fun _ => h3⟩ (by omega) (by simp)
  | 2, _ =>
    have h1 := h1 (by omega)
    have h2 := h2 (by omega)
    subst h1 h2
    try simp 
    refine CondK.ff ?_
    try simp 
    try simp 
    apply he
    try simp 
theorem labelCompare_c (a b : Int × Int) : CallP Tryz.prog 88 [pairV a, pairV b] (iv (cmpN a b)) := by
  refine C88 (by simp) ?_
  simp [A88]
  refine CallK.intro (by simpa using cmpInt_c a.1 b.1) (by simp) (by simp) ?_
  try simp 
  repeat (refine PreK.intro (by first | omega | (intros; first | omega | (refine ⟨by omega, ?_⟩; simp_all; done) | (simp_all; done) | (simp_all; omega))) fun _ => ?_; (try simp ))
  refine CallK.intro (by simpa using cmpInt_c a.2 b.2) (by simp) (by simp) ?_
  try simp 
  repeat (refine PreK.intro (by first | omega | (intros; first | omega | (refine ⟨by omega, ?_⟩; simp_all; done) | (simp_all; done) | (simp_all; omega))) fun _ => ?_; (try simp ))
  refine CallK.intro (by simpa using or_c (cmpI a.1 b.1) (cmpI a.2 b.2)) (by simp) (by simp) ?_
  try simp 
  repeat (refine PreK.intro (by first | omega | (intros; first | omega | (refine ⟨by omega, ?_⟩; simp_all; done) | (simp_all; done) | (simp_all; omega))) fun _ => ?_; (try simp ))
  simp [cmpN]
theorem sortN_L (l : List (Int × Int)) : CallL Tryz.prog 87 [] 2 (l.map pairV) [.fn 88 [] []] (.val (.tup [])) ((sortN l).map pairV) :=
  callL_sortN lsortN Tryz.isAgg95 Tryz.sizeOf95 labelCompare_c l
end Go.Proofs.YtgfgkfkplidncaaGreat
end

section
/- Contracts: orders; the sounds of a table, their rows; which tables are right. -/
namespace Go.Proofs.YtgfgkfkplidncaaGreat
open Go.Abs Go
set_option maxRecDepth 20000
set_option maxHeartbeats 2000000
attribute [local irreducible] PreK CondK CallK CallG CallX LoopK
attribute [local simp] avsEq avEq akind teq vkind vEq

theorem flat_ivs (l : List Int) : ∀ i, i < (l.map iv).length → flat ((l.map iv).getD i .junk) = true := by
  intro i hi
  rw [show (l.map iv).getD i .junk = iv (el l i) from nth_map iv l i (by simpa using hi)]
  rfl
theorem isOrder_c (l : List Int) (n : Int) (hl : l.length ≤ 1000) : CallP Tryz.prog 55 [ints l, iv n] (bv (isOrdB l n)) := by
  refine C55 (by simp) ?_
  generalize hR : isOrdB l n = R
  unfold isOrdB at hR
  simp [A55]
  refine CondK.intro (fun h1 => ?_) (fun h1 => ?_)
  · simp at h1
    simp only [h1, decide_false, Bool.false_and] at hR
    try simp 
    first | exact hR | exact hR.symm
  · simp at h1
    subst h1
    simp only [decide_true, Bool.true_and, Int.toNat_natCast] at hR
    try simp 
    refine LoopK.by (fun i : Nat => ⟨[(11, iv i), (10, iv l.length), (0, ints l)], []⟩) (fun i => l.length - i) (fun i => i ≤ l.length ∧ ((idsN l.length).drop i).all (fun i => l.contains i) = R) 0 (by simpa using hR) (by simp) ?_
    intro i Q' ⟨hi, hc⟩ hq he hr
    try simp 
    refine CondK.intro (fun h2 => ?_) (fun h2 => ?_)
    · simp at h2
      have hcn := contains_c l i (sbig hl)
      rw [any_contains] at hcn
      rw [drop_cons _ i (by rw [ids_len]; exact h2), List.all_cons, el_ids h2] at hc
      generalize l.contains (i : Int) = b at hcn hc
      try simp 
      repeat' (first
        | (refine CallX.pure (hcn) (by simp) (by simp) ?_; try simp )
        | (refine CallK.intro (hcn) (by simp) (by simp) ?_; try simp )
        | (refine CallG.intro (fun _ => hcn) (by simp) (by simp) ?_; try simp )
        | ((with_reducible refine PreK.intro ?_ ?_); (next => (first | omega | (intros; first | omega | (refine ⟨by omega, ?_⟩; repeat (first | assumption | constructor)) | assumption))); intro _; try simp )
        | fail)
      cases b with
      | false =>
        refine CondK.tt ?_
        try simp 
        apply hr
        simpa using hc
      | true =>
        refine CondK.ff ?_
        try simp 
        repeat (refine PreK.intro (by first | omega | (intros; first | omega | (refine ⟨by omega, ?_⟩; simp_all; done) | (simp_all; done) | (simp_all; omega))) fun _ => ?_; (try simp ))
        exact hq (i + 1) _ ⟨by omega, by simpa using hc⟩ (by omega) (by simp)
    · simp at h2
      rw [List.drop_eq_nil_of_le (by rw [ids_len]; omega)] at hc
      simp only [List.all_nil] at hc
      try simp 
      apply he
      try simp 
      first | exact hc | exact hc.symm
/-! ### the program's check, its line -/
@[simp] def lineV (t : Tab) : AV := .agg [ints t.flatten, ints (rowsF 0 t)]
theorem Validate_c (t : Tab) (h : Sm t) : CallP Tryz.prog 42 [tabV t] (iv (tabErr t)) := by
  refine C42 (by simp) ?_
  have hn := h.num
  have hfl := flat_le t h.row
  generalize hR : tabErr t = R
  unfold tabErr at hR
  simp [A42]
  have hw := swithin_c t.length 1 6
  generalize hb : (decide (1 ≤ (t.length : Int)) && decide ((t.length : Int) ≤ 6)) = b at hR hw
  cases b with
  | false =>
    try simp 
    repeat' (first
      | (refine CallX.pure (hw) (by simp) (by simp) ?_; try simp )
      | (refine CallK.intro (hw) (by simp) (by simp) ?_; try simp )
      | (refine CallG.intro (fun _ => hw) (by simp) (by simp) ?_; try simp )
      | ((with_reducible refine PreK.intro ?_ ?_); (next => (first | omega | (intros; first | omega | (refine ⟨by omega, ?_⟩; repeat (first | assumption | constructor)) | assumption))); intro _; try simp )
      | fail)
    refine CondK.tt ?_
    try simp 
    simpa using hR
  | true =>
    simp only [Bool.and_eq_true, decide_eq_true_eq] at hb
    simp only [Bool.not_true, Bool.false_eq_true, if_false] at hR
    try simp 
    repeat' (first
      | (refine CallX.pure (hw) (by simp) (by simp) ?_; try simp )
      | (refine CallK.intro (hw) (by simp) (by simp) ?_; try simp )
      | (refine CallG.intro (fun _ => hw) (by simp) (by simp) ?_; try simp )
      | ((with_reducible refine PreK.intro ?_ ?_); (next => (first | omega | (intros; first | omega | (refine ⟨by omega, ?_⟩; repeat (first | assumption | constructor)) | assumption))); intro _; try simp )
      | fail)
    refine CondK.ff ?_
    try simp 
    try simp 
    refine LoopK.by (fun i : Nat => ⟨[(12, iv i), (11, iv t.length), (10, tabV t), (0, tabV t)], []⟩) (fun i => t.length - i) (fun i => i ≤ t.length ∧ (if (t.drop i).any rowBad = true then (1 : Int) else if t.flatten.Nodup then 0 else 5) = R) 0 (by simpa using hR) (by simp) ?_
    intro i Q' ⟨hi, hc⟩ hq he hr
    try simp 
    refine CondK.intro (fun h1 => ?_) (fun h1 => ?_)
    · simp at h1
      have hel := h.el i
      rw [drop_cons t i h1, List.any_cons] at hc
      rw [show rowBad (el t i) = (decide (el t i = []) || (el t i).any fun x => !okS x) from rfl] at hc
      have hcf := containsFunc_c (el t i) (sbig (by omega)) 82 [] (fun n => !okS n) notS_c (by simp [snapL]) (by simp [AV.refsL]) (by simp [snapOKL])
      generalize ((el t i).any fun x => !okS x) = b at hcf hc
      by_cases h3 : el t i = []
      · simp only [h3, decide_true, Bool.true_or, if_true] at hc
        try simp [h1, h3]
        repeat (refine PreK.intro (by first | omega | (intros; first | omega | (refine ⟨by omega, ?_⟩; simp_all; done) | (simp_all; done) | (simp_all; omega))) fun _ => ?_; (try simp [h1, h3]))
        refine CallG.intro (r := bv true) (fun hh => by cases hh) (by simp) (by simp) ?_
        try simp 
        repeat (refine PreK.intro (by first | omega | (intros; first | omega | (refine ⟨by omega, ?_⟩; simp_all; done) | (simp_all; done) | (simp_all; omega))) fun _ => ?_; (try simp ))
        refine CondK.tt ?_
        try simp 
        apply hr
        simp [hc]
      · have h3' : ¬ (el t i).length = 0 := fun e => h3 (List.eq_nil_of_length_eq_zero e)
        simp only [h3, decide_false, Bool.false_or] at hc
        try simp [h1, h3, h3']
        repeat' (first
          | (refine CallX.pure (hcf) (by simp) (by simp) ?_; try simp [h1, h3, h3'])
          | (refine CallK.intro (hcf) (by simp) (by simp) ?_; try simp [h1, h3, h3'])
          | (refine CallG.intro (fun _ => hcf) (by simp) (by simp) ?_; try simp [h1, h3, h3'])
          | ((with_reducible refine PreK.intro ?_ ?_); (next => (first | omega | (intros; first | omega | (refine ⟨by omega, ?_⟩; repeat (first | assumption | constructor)) | assumption))); intro _; try simp [h1, h3, h3'])
          | fail)
        cases b with
        | true =>
          refine CondK.tt ?_
          try simp 
          apply hr
          simpa using hc
        | false =>
          refine CondK.ff ?_
          try simp 
          repeat (refine PreK.intro (by first | omega | (intros; first | omega | (refine ⟨by omega, ?_⟩; simp_all; done) | (simp_all; done) | (simp_all; omega))) fun _ => ?_; (try simp ))
          exact hq (i + 1) _ ⟨by omega, by simpa using hc⟩ (by omega) (by simp)
    · simp at h1
      rw [List.drop_eq_nil_of_le (by omega)] at hc
      simp only [List.any_nil, Bool.false_eq_true, if_false] at hc
      try simp 
      apply he
      have hcc := concat_o t (by omega) (by omega)
      have hmf : (List.map (List.map iv) t).flatten = List.map iv t.flatten := by rw [List.map_flatten]
      generalize t.flatten = l at hc hfl hcc hmf
      have hs1 := sortI_L l
      have hsl := sortI_len l
      have hs2 := Compact_L (sortI l) (by omega)
      have hcl := clone_o (sortI l) (by omega)
      have hnd := nodup_comp l
      have hcn := compI_num (sortI l)
      generalize sortI l = s at hs1 hsl hs2 hcl hnd hcn
      generalize compI s = u at hs2 hnd hcn
      try simp 
      refine CallX.own (by simpa using hcc) (by simp) (by simp) ?_
      try simp 
      refine CallX.lend [] (id := 25) (ver := 1) (n := l.length) (b := ⟨1, l.map iv, 1, false⟩) [] (.val (.tup [])) _ (by simp) (by simp) (by simp) (by simp) (by simp) (by simp) (by simp) (by simpa using hs1) ?_
      try simp 
      have htk : List.take l.length (List.map iv s) = List.map iv s := List.take_of_length_le (by simp [hsl])
      refine CallX.own (by simpa [htk] using hcl) (by simp [hsl]) (.inr (flat_ivs s)) ?_
      try simp [htk, hsl]
      refine CallX.lend [] (id := 29) (ver := 1) (n := s.length) (b := ⟨1, s.map iv, 1, false⟩) [] (.part u.length) _ (by simp [hsl]) (by simp) (by simp) (by simp) (by simp) (by simp) (by simp) (by simpa using hs2) ?_
      try simp 
      repeat (refine PreK.intro (by first | omega | (intros; first | omega | (refine ⟨by omega, ?_⟩; simp_all; done) | (simp_all; done) | (simp_all; omega))) fun _ => ?_; (try simp ))
      refine CondK.intro (fun h2 => ?_) (fun h2 => ?_)
      · simp at h2
        rw [if_neg (by rw [← hnd]; omega)] at hc
        try simp 
        exact hc
      · simp at h2
        rw [if_pos (by rw [← hnd]; omega)] at hc
        try simp 
        exact hc
theorem lineOf_c (t : Tab) (h : TabOK t) : CallP Tryz.prog 44 [tabV t] (lineV t) := by
  refine C44 (by simp) ?_
  have hn := h.num
  have hp := h.pos
  have hl := h.len
  have hrow : ∀ i, i < t.length → 1 ≤ (el t i).length ∧ (el t i).length ≤ 6 := by
    intro i hi
    have h1 := h.row _ (el_mem_of t i hi)
    have h2 : (el t i).length ≠ 0 := fun e => h1 (List.eq_nil_of_length_eq_zero e)
    have h3 : (el t i).Sublist t.flatten := by
      have : t.flatten = (t.take i).flatten ++ (el t i ++ (t.drop (i + 1)).flatten) := by
        conv => lhs; rw [← List.take_append_drop i t, drop_cons t i hi]
        simp
      rw [this]
      exact (List.sublist_append_left _ _).trans (List.sublist_append_right _ _)
    have := h3.length_le
    omega
  generalize hR : rowsF 0 t = R
  have hRl : R.length ≤ 6 := by rw [← hR, rowsF_len]; exact hl
  unfold lineV
  rw [hR]
  generalize hL : t.flatten = L at hl
  simp [A44]
  refine LoopK.by (ι := Nat × Nat × List Int × Nat × List Int) (fun x => match x.1 with
    | 0 => ⟨[(8, iv (0 : Nat)), (7, iv t.length), (6, tabV t), (3, .pt 3 1 0 0), (2, .pt 2 1 0 0)], [(3, some ⟨2, [.agg [.seq 1 [] true, .seq 1 [] true]], 1, true⟩), (2, some ⟨2, [.agg [.seq 1 [] true, .seq 1 [] true]], 1, true⟩)]⟩
    | k + 1 => ⟨[(8, iv (k + 1 : Nat)), (7, iv t.length), (6, tabV t), (3, .pt 3 1 0 0), (2, .pt 2 1 0 0)], [(3, some ⟨2, [.agg [.sl 16 x.2.1 0 x.2.2.1.length, .sl 25 x.2.2.2.1 0 x.2.2.2.2.length]], 1, true⟩), (16, some ⟨1, x.2.2.1.map iv, x.2.1, false⟩), (25, some ⟨1, x.2.2.2.2.map iv, x.2.2.2.1, false⟩), (2, some ⟨2, [.agg [.seq 1 [] true, .seq 1 [] true]], 1, true⟩)]⟩) (fun x => t.length - x.1)
    (fun x => x.1 ≤ t.length ∧ x.2.2.1 ++ (t.drop x.1).flatten = L ∧ x.2.2.2.2 ++ rowsF x.1 (t.drop x.1) = R ∧ (x.1 = 0 → x.2.2.1 = [] ∧ x.2.2.2.2 = [])) (0, 1, [], 1, []) ⟨Nat.zero_le _, by simpa using hL, by simpa using hR, fun _ => ⟨rfl, rfl⟩⟩ (by simp) ?_
  intro ⟨i, v1, a1, v2, a2⟩ Q' ⟨hi, hc1, hc2, hc3⟩ hq he hr
  dsimp only at hi hc1 hc2 hc3
  have hlen1 := congrArg List.length hc1
  have hlen2 := congrArg List.length hc2
  simp only [List.length_append] at hlen1 hlen2
  cases i with
  | zero =>
    obtain ⟨rfl, rfl⟩ := hc3 rfl
    have h1 : 0 < t.length := by omega
    obtain ⟨r1, r2⟩ := hrow 0 h1
    have hrep := (repeat_o false ((0 : Nat) : Int) (el t 0).length (by omega) (by omega)).toP
    rw [drop_cons t 0 h1, List.flatten_cons] at hc1
    rw [drop_cons t 0 h1, rowsF] at hc2
    try simp 
    refine CondK.intro (fun h2 => ?_) (fun h2 => ?_)
    · repeat (refine PreK.intro (by first | omega | (intros; first | omega | (refine ⟨by omega, ?_⟩; simp_all; done) | (simp_all; done) | (simp_all; omega))) fun _ => ?_; (try simp [h1]))
      refine CallK.intro (by simpa using hrep) (by simp) (by simp) ?_
      try simp [h1]
      repeat (refine PreK.intro (by first | omega | (intros; first | omega | (refine ⟨by omega, ?_⟩; simp_all; done) | (simp_all; done) | (simp_all; omega))) fun _ => ?_; (try simp [h1]))
      exact hq (1, 1, el t 0, 1, List.replicate (el t 0).length 0) _ ⟨by dsimp only; omega, by simpa using hc1, by simpa using hc2, fun h => by cases h⟩ (by dsimp only; omega) (by simp)
    · simp at h2
      simp [h2] at h1
  | succ i =>
    try simp 
    refine CondK.intro (fun h2 => ?_) (fun h2 => ?_)
    · simp at h2
      replace h2 : i + 1 < t.length := by omega
      obtain ⟨r1, r2⟩ := hrow (i + 1) h2
      have hrep := (repeat_o false ((i + 1 : Nat) : Int) (el t (i + 1)).length (by omega) (by omega)).toP
      rw [drop_cons t (i + 1) h2, List.flatten_cons, ← List.append_assoc] at hc1
      rw [drop_cons t (i + 1) h2, rowsF, ← List.append_assoc] at hc2
      repeat (refine PreK.intro (by first | omega | (intros; first | omega | (refine ⟨by omega, ?_⟩; simp_all; done) | (simp_all; done) | (simp_all; omega))) fun _ => ?_; (try simp [h2]))
      refine CallK.intro (by simpa using hrep) (by simp) (by simp) ?_
      try simp [h2]
      repeat (refine PreK.intro (by first | omega | (intros; first | omega | (refine ⟨by omega, ?_⟩; simp_all; done) | (simp_all; done) | (simp_all; omega))) fun _ => ?_; (try simp [h2]))
      exact hq (i + 2, v1 + 1, a1 ++ el t (i + 1), v2 + 1, a2 ++ List.replicate (el t (i + 1)).length ((i + 1 : Nat) : Int)) _ ⟨by dsimp only; omega, hc1, hc2, fun h => by cases h⟩ (by dsimp only; omega) (by simp)
    · simp at h2
      rw [List.drop_eq_nil_of_le (by omega)] at hc1 hc2
      simp only [List.flatten_nil, List.append_nil, rowsF] at hc1 hc2
      subst hc1 hc2
      try simp 
      apply he
      repeat (refine PreK.intro (by first | omega | (intros; first | omega | (refine ⟨by omega, ?_⟩; simp_all; done) | (simp_all; done) | (simp_all; omega))) fun _ => ?_; (try simp ))
end Go.Proofs.YtgfgkfkplidncaaGreat
end

section
/- Functions of the cut as the value layer reads them. (written by gen.py) -/
set_option maxRecDepth 20000
namespace Go.Proofs.YtgfgkfkplidncaaGreat
open Go.Abs Go

def A12 : ACode :=
  (.seq (.reg [] [⟨some 2, (.assign (.const (.bool false))), 4, none⟩])
    (.seq (.reg [] [⟨some 3, (.move (.tmp 0)), 23, none⟩,
      ⟨some 4, (.call ⟨(.builtin .len), #[(.tmp 3)], #[23]⟩), 3, none⟩,
      ⟨some 5, (.binOp .gtr 3 (.tmp 4) (.const (.int .i64 100)) 3), 4, none⟩,
      ⟨some 2, (.assign (.tmp 5)), 4, none⟩])
    .ret))
theorem C12 {args : List AV} {r : AV} (hn : args.length ≤ 6) (h : vc Tryz.prog T [] A12 (Fin T [(.tmp 2)] r) ⟨envOf 0 args, []⟩) : CallP Tryz.prog 12 args r :=
  callP_of tok mixed Tryz.func12 (by kernel_rfl) (by kernel_rfl) (by kernel_rfl : Tryz.f12.ntmps = 6) (by kernel_rfl : Tryz.f12.body.bind (strip 6 (fun _ => [])) = some A12) hn h
def A11 : ACode :=
  (.seq (.reg [] [⟨some 2, (.assign (.const (.bool false))), 4, none⟩])
    (.seq (.seq (.reg [] [⟨some 4, (.move (.tmp 0)), 22, none⟩,
      ⟨some 5, (.call ⟨(.builtin .len), #[(.tmp 4)], #[22]⟩), 3, none⟩,
      ⟨some 6, (.binOp .gtr 3 (.tmp 5) (.const (.int .i64 50)) 3), 4, none⟩])
    (.cond (.tmp 6)
    (.seq (.reg [] [⟨some 2, (.assign (.const (.bool true))), 4, none⟩])
    .ret)
    .skip))
    (.seq (.seq (.reg [] [⟨some 3, (.assign (.const (.int .i64 0))), 3, none⟩])
    (.block 0 (.loop (.seq (.seq (.reg [] [⟨some 7, (.move (.tmp 3)), 3, none⟩,
      ⟨some 8, (.move (.tmp 0)), 22, none⟩,
      ⟨some 9, (.call ⟨(.builtin .len), #[(.tmp 8)], #[22]⟩), 3, none⟩,
      ⟨some 10, (.binOp .lss 3 (.tmp 7) (.tmp 9) 3), 4, none⟩])
    (.cond (.tmp 10)
    .skip
    (.exit 0)))
    (.seq (.block 1 (.seq (.reg [] [⟨some 13, (.move (.tmp 0)), 22, none⟩,
      ⟨some 14, (.move (.tmp 3)), 3, none⟩,
      ⟨some 15, (.indexAddr 22 (.tmp 13) (.tmp 14)), 0, none⟩,
      ⟨some 16, (.load 23 (.tmp 15)), 23, none⟩,
      ⟨some 17, (.call ⟨(.value (.func 12)), #[(.tmp 16)], #[23]⟩), 4, none⟩])
    (.cond (.tmp 17)
    (.seq (.reg [] [⟨some 2, (.assign (.const (.bool true))), 4, none⟩])
    .ret)
    .skip)))
    (.reg [] [⟨some 11, (.move (.tmp 3)), 3, none⟩,
      ⟨some 12, (.binOp .add 3 (.tmp 11) (.const (.int .i64 1)) 3), 3, none⟩,
      ⟨some 3, (.assign (.tmp 12)), 3, none⟩]))))))
    (.seq (.reg [] [⟨some 2, (.assign (.const (.bool false))), 4, none⟩])
    .ret))))
theorem C11 {args : List AV} {r : AV} (hn : args.length ≤ 18) (h : vc Tryz.prog T [] A11 (Fin T [(.tmp 2)] r) ⟨envOf 0 args, []⟩) : CallP Tryz.prog 11 args r :=
  callP_of tok mixed Tryz.func11 (by kernel_rfl) (by kernel_rfl) (by kernel_rfl : Tryz.f11.ntmps = 18) (by kernel_rfl : Tryz.f11.body.bind (strip 18 (fun _ => [])) = some A11) hn h
def A10 : ACode :=
  (.seq (.reg [] [⟨some 6, (.assign (.const (.bool false))), 4, none⟩])
    (.seq (.seq (.reg [] [⟨some 29, (.buildSlice 23 1 #[(0, (.const (.int .i64 0)))]), 23, none⟩,
      ⟨some 30, (.buildSlice 23 2 #[(0, (.const (.int .i64 0))), (1, (.const (.int .i64 1)))]), 23, none⟩,
      ⟨some 31, (.buildSlice 22 2 #[(0, (.tmp 29)), (1, (.tmp 30))]), 22, none⟩,
      ⟨some 32, (.call ⟨(.value (.func 30)), #[(.const (.int .i64 2)), (.tmp 31)], #[3, 22]⟩), 37, none⟩,
      ⟨some 28, (.move (.tmp 32)), 37, none⟩,
      ⟨some 33, (.extract (.tmp 28) 0), 3, none⟩,
      ⟨some 34, (.extract (.tmp 28) 1), 4, none⟩,
      ⟨some 35, (.extract (.tmp 28) 2), 28, none⟩,
      ⟨some 7, (.assign (.tmp 33)), 3, none⟩,
      ⟨some 8, (.assign (.tmp 34)), 4, none⟩,
      ⟨some 9, (.assign (.tmp 35)), 28, none⟩])
    (.seq (.reg [] [⟨some 36, (.move (.tmp 9)), 28, none⟩,
      ⟨some 37, (.binOp .neq 28 (.tmp 36) (.const (.int .i64 0)) 28), 4, none⟩,
      ⟨some 38, (.move (.tmp 37)), 4, none⟩,
      ⟨some 39, (.move (.tmp 8)), 4, some (38, false)⟩,
      ⟨some 40, (.unOp .not 4 (.tmp 39)), 4, some (38, false)⟩,
      ⟨some 41, (.pick (.tmp 38) (.const (.bool true)) (.tmp 40)), 4, none⟩,
      ⟨some 42, (.move (.tmp 41)), 4, none⟩,
      ⟨some 43, (.move (.tmp 7)), 3, some (42, false)⟩,
      ⟨some 44, (.binOp .neq 3 (.tmp 43) (.const (.int .i64 1)) 3), 4, some (42, false)⟩,
      ⟨some 45, (.pick (.tmp 42) (.const (.bool true)) (.tmp 44)), 4, none⟩])
    (.cond (.tmp 45)
    (.seq (.reg [] [⟨some 6, (.assign (.const (.bool false))), 4, none⟩])
    .ret)
    .skip)))
    (.seq (.seq (.reg [] [⟨some 46, (.move (.tmp 1)), 22, none⟩,
      ⟨some 47, (.call ⟨(.value (.func 11)), #[(.tmp 46)], #[22]⟩), 4, none⟩,
      ⟨some 48, (.move (.tmp 47)), 4, none⟩,
      ⟨some 49, (.move (.tmp 2)), 23, some (48, false)⟩,
      ⟨some 50, (.call ⟨(.builtin .len), #[(.tmp 49)], #[23]⟩), 3, some (48, false)⟩,
      ⟨some 51, (.binOp .gtr 3 (.tmp 50) (.const (.int .i64 100)) 3), 4, some (48, false)⟩,
      ⟨some 52, (.pick (.tmp 48) (.const (.bool true)) (.tmp 51)), 4, none⟩])
    (.cond (.tmp 52)
    (.seq (.reg [] [⟨some 6, (.assign (.const (.bool true))), 4, none⟩])
    .ret)
    .skip))
    (.seq (.reg [] [⟨some 54, (.move (.tmp 0)), 3, none⟩,
      ⟨some 55, (.move (.tmp 1)), 22, none⟩,
      ⟨some 56, (.call ⟨(.value (.func 37)), #[(.tmp 54), (.tmp 55)], #[3, 22]⟩), 54, none⟩,
      ⟨some 53, (.move (.tmp 56)), 54, none⟩,
      ⟨some 57, (.extract (.tmp 53) 0), 23, none⟩,
      ⟨some 58, (.extract (.tmp 53) 1), 4, none⟩,
      ⟨some 59, (.extract (.tmp 53) 2), 28, none⟩,
      ⟨some 10, (.assign (.tmp 57)), 23, none⟩,
      ⟨some 11, (.assign (.tmp 58)), 4, none⟩,
      ⟨some 12, (.assign (.tmp 59)), 28, none⟩])
    (.seq (.seq (.reg [] [⟨some 60, (.move (.tmp 12)), 28, none⟩,
      ⟨some 61, (.binOp .neq 28 (.tmp 60) (.const (.int .i64 0)) 28), 4, none⟩])
    (.cond (.tmp 61)
    (.seq (.reg [] [⟨some 6, (.assign (.const (.bool true))), 4, none⟩])
    .ret)
    .skip))
    (.seq (.reg [] [⟨some 63, (.move (.tmp 0)), 3, none⟩,
      ⟨some 64, (.move (.tmp 1)), 22, none⟩,
      ⟨some 65, (.call ⟨(.value (.func 19)), #[(.tmp 63), (.tmp 64)], #[3, 22]⟩), 35, none⟩,
      ⟨some 62, (.move (.tmp 65)), 35, none⟩,
      ⟨some 66, (.extract (.tmp 62) 0), 22, none⟩,
      ⟨some 67, (.extract (.tmp 62) 1), 4, none⟩,
      ⟨some 68, (.extract (.tmp 62) 2), 28, none⟩,
      ⟨some 13, (.assign (.tmp 66)), 22, none⟩,
      ⟨some 14, (.assign (.tmp 67)), 4, none⟩,
      ⟨some 12, (.assign (.tmp 68)), 28, none⟩])
    (.seq (.reg [] [⟨some 70, (.move (.tmp 0)), 3, none⟩,
      ⟨some 71, (.move (.tmp 1)), 22, none⟩,
      ⟨some 72, (.call ⟨(.value (.func 30)), #[(.tmp 70), (.tmp 71)], #[3, 22]⟩), 37, none⟩,
      ⟨some 69, (.move (.tmp 72)), 37, none⟩,
      ⟨some 73, (.extract (.tmp 69) 0), 3, none⟩,
      ⟨some 74, (.extract (.tmp 69) 1), 4, none⟩,
      ⟨some 75, (.extract (.tmp 69) 2), 28, none⟩,
      ⟨some 15, (.assign (.tmp 73)), 3, none⟩,
      ⟨some 16, (.assign (.tmp 74)), 4, none⟩,
      ⟨some 17, (.assign (.tmp 75)), 28, none⟩])
    (.seq (.seq (.reg [] [⟨some 76, (.move (.tmp 12)), 28, none⟩,
      ⟨some 77, (.binOp .neq 28 (.tmp 76) (.const (.int .i64 0)) 28), 4, none⟩,
      ⟨some 78, (.move (.tmp 77)), 4, none⟩,
      ⟨some 79, (.move (.tmp 17)), 28, some (78, false)⟩,
      ⟨some 80, (.binOp .neq 28 (.tmp 79) (.const (.int .i64 0)) 28), 4, some (78, false)⟩,
      ⟨some 81, (.pick (.tmp 78) (.const (.bool true)) (.tmp 80)), 4, none⟩,
      ⟨some 82, (.move (.tmp 81)), 4, none⟩,
      ⟨some 83, (.move (.tmp 14)), 4, some (82, false)⟩,
      ⟨some 84, (.move (.tmp 11)), 4, some (82, false)⟩,
      ⟨some 85, (.binOp .neq 4 (.tmp 83) (.tmp 84) 4), 4, some (82, false)⟩,
      ⟨some 86, (.pick (.tmp 82) (.const (.bool true)) (.tmp 85)), 4, none⟩,
      ⟨some 87, (.move (.tmp 86)), 4, none⟩,
      ⟨some 88, (.move (.tmp 16)), 4, some (87, false)⟩,
      ⟨some 89, (.move (.tmp 11)), 4, some (87, false)⟩,
      ⟨some 90, (.binOp .neq 4 (.tmp 88) (.tmp 89) 4), 4, some (87, false)⟩,
      ⟨some 91, (.pick (.tmp 87) (.const (.bool true)) (.tmp 90)), 4, none⟩])
    (.cond (.tmp 91)
    (.seq (.reg [] [⟨some 6, (.assign (.const (.bool false))), 4, none⟩])
    .ret)
    .skip))
    (.seq (.seq (.reg [] [⟨some 92, (.move (.tmp 11)), 4, none⟩,
      ⟨some 93, (.move (.tmp 92)), 4, none⟩,
      ⟨some 94, (.move (.tmp 0)), 3, some (93, true)⟩,
      ⟨some 95, (.move (.tmp 1)), 22, some (93, true)⟩,
      ⟨some 96, (.move (.tmp 13)), 22, some (93, true)⟩,
      ⟨some 97, (.call ⟨(.value (.func 17)), #[(.tmp 94), (.tmp 95), (.tmp 96)], #[3, 22, 22]⟩), 28, some (93, true)⟩,
      ⟨some 98, (.binOp .neq 28 (.tmp 97) (.const (.int .i64 0)) 28), 4, some (93, true)⟩,
      ⟨some 99, (.move (.tmp 98)), 4, some (93, true)⟩,
      ⟨some 100, (.move (.tmp 13)), 22, some (99, false)⟩,
      ⟨some 101, (.call ⟨(.builtin .len), #[(.tmp 100)], #[22]⟩), 3, some (99, false)⟩,
      ⟨some 102, (.move (.tmp 15)), 3, some (99, false)⟩,
      ⟨some 103, (.binOp .neq 3 (.tmp 101) (.tmp 102) 3), 4, some (99, false)⟩,
      ⟨some 104, (.pick (.tmp 99) (.const (.bool true)) (.tmp 103)), 4, some (93, true)⟩,
      ⟨some 105, (.pick (.tmp 93) (.tmp 104) (.const (.bool false))), 4, none⟩])
    (.cond (.tmp 105)
    (.seq (.reg [] [⟨some 6, (.assign (.const (.bool false))), 4, none⟩])
    .ret)
    .skip))
    (.seq (.reg [] [⟨some 106, (.move (.tmp 10)), 23, none⟩,
      ⟨some 107, (.move (.tmp 2)), 23, none⟩,
      ⟨some 108, (.buildSlice 22 2 #[(0, (.tmp 106)), (1, (.tmp 107))]), 22, none⟩,
      ⟨some 18, (.assign (.tmp 108)), 22, none⟩])
    (.seq (.seq (.reg [] [⟨some 19, (.assign (.const (.int .i64 0))), 3, none⟩])
    (.block 0 (.loop (.seq (.seq (.reg [] [⟨some 109, (.move (.tmp 19)), 3, none⟩,
      ⟨some 110, (.move (.tmp 18)), 22, none⟩,
      ⟨some 111, (.call ⟨(.builtin .len), #[(.tmp 110)], #[22]⟩), 3, none⟩,
      ⟨some 112, (.binOp .lss 3 (.tmp 109) (.tmp 111) 3), 4, none⟩])
    (.cond (.tmp 112)
    .skip
    (.exit 0)))
    (.seq (.block 1 (.seq (.reg [] [⟨some 116, (.move (.tmp 0)), 3, none⟩,
      ⟨some 117, (.move (.tmp 1)), 22, none⟩,
      ⟨some 118, (.move (.tmp 18)), 22, none⟩,
      ⟨some 119, (.move (.tmp 19)), 3, none⟩,
      ⟨some 120, (.indexAddr 22 (.tmp 118) (.tmp 119)), 0, none⟩,
      ⟨some 121, (.load 23 (.tmp 120)), 23, none⟩,
      ⟨some 122, (.call ⟨(.value (.func 38)), #[(.tmp 116), (.tmp 117), (.tmp 121)], #[3, 22, 23]⟩), 56, none⟩,
      ⟨some 115, (.move (.tmp 122)), 56, none⟩,
      ⟨some 123, (.extract (.tmp 115) 0), 4, none⟩,
      ⟨some 124, (.extract (.tmp 115) 1), 28, none⟩,
      ⟨some 20, (.assign (.tmp 123)), 4, none⟩,
      ⟨some 21, (.assign (.tmp 124)), 28, none⟩])
    (.seq (.seq (.reg [] [⟨some 125, (.move (.tmp 21)), 28, none⟩,
      ⟨some 126, (.binOp .neq 28 (.tmp 125) (.const (.int .i64 0)) 28), 4, none⟩,
      ⟨some 127, (.move (.tmp 126)), 4, none⟩,
      ⟨some 128, (.move (.tmp 20)), 4, some (127, false)⟩,
      ⟨some 129, (.unOp .not 4 (.tmp 128)), 4, some (127, false)⟩,
      ⟨some 130, (.pick (.tmp 127) (.const (.bool true)) (.tmp 129)), 4, none⟩])
    (.cond (.tmp 130)
    (.exit 1)
    .skip))
    (.seq (.seq (.reg [] [⟨some 131, (.move (.tmp 11)), 4, none⟩,
      ⟨some 132, (.unOp .not 4 (.tmp 131)), 4, none⟩])
    (.cond (.tmp 132)
    (.seq (.reg [] [⟨some 6, (.assign (.const (.bool false))), 4, none⟩])
    .ret)
    .skip))
    (.seq (.reg [] [⟨some 134, (.move (.tmp 0)), 3, none⟩,
      ⟨some 135, (.move (.tmp 1)), 22, none⟩,
      ⟨some 136, (.move (.tmp 18)), 22, none⟩,
      ⟨some 137, (.move (.tmp 19)), 3, none⟩,
      ⟨some 138, (.indexAddr 22 (.tmp 136) (.tmp 137)), 0, none⟩,
      ⟨some 139, (.load 23 (.tmp 138)), 23, none⟩,
      ⟨some 140, (.call ⟨(.value (.func 28)), #[(.tmp 134), (.tmp 135), (.tmp 139)], #[3, 22, 23]⟩), 46, none⟩,
      ⟨some 133, (.move (.tmp 140)), 46, none⟩,
      ⟨some 141, (.extract (.tmp 133) 0), 3, none⟩,
      ⟨some 142, (.extract (.tmp 133) 1), 28, none⟩,
      ⟨some 22, (.assign (.tmp 141)), 3, none⟩,
      ⟨some 21, (.assign (.tmp 142)), 28, none⟩])
    (.seq (.reg [] [⟨some 143, (.move (.tmp 18)), 22, none⟩,
      ⟨some 144, (.move (.tmp 19)), 3, none⟩,
      ⟨some 145, (.indexAddr 22 (.tmp 143) (.tmp 144)), 0, none⟩,
      ⟨some 146, (.load 23 (.tmp 145)), 23, none⟩,
      ⟨some 147, (.move (.tmp 1)), 22, none⟩,
      ⟨some 148, (.call ⟨(.value (.func 39)), #[(.tmp 146), (.tmp 147)], #[23, 22]⟩), 22, none⟩,
      ⟨some 23, (.assign (.tmp 148)), 22, none⟩])
    (.seq (.seq (.reg [] [⟨some 149, (.move (.tmp 21)), 28, none⟩,
      ⟨some 150, (.binOp .neq 28 (.tmp 149) (.const (.int .i64 0)) 28), 4, none⟩,
      ⟨some 151, (.move (.tmp 150)), 4, none⟩,
      ⟨some 152, (.move (.tmp 22)), 3, some (151, false)⟩,
      ⟨some 153, (.move (.tmp 15)), 3, some (151, false)⟩,
      ⟨some 154, (.binOp .lss 3 (.tmp 152) (.tmp 153) 3), 4, some (151, false)⟩,
      ⟨some 155, (.pick (.tmp 151) (.const (.bool true)) (.tmp 154)), 4, none⟩,
      ⟨some 156, (.move (.tmp 155)), 4, none⟩,
      ⟨some 157, (.move (.tmp 23)), 22, some (156, false)⟩,
      ⟨some 158, (.call ⟨(.builtin .len), #[(.tmp 157)], #[22]⟩), 3, some (156, false)⟩,
      ⟨some 159, (.move (.tmp 22)), 3, some (156, false)⟩,
      ⟨some 160, (.binOp .neq 3 (.tmp 158) (.tmp 159) 3), 4, some (156, false)⟩,
      ⟨some 161, (.pick (.tmp 156) (.const (.bool true)) (.tmp 160)), 4, none⟩,
      ⟨some 162, (.move (.tmp 161)), 4, none⟩,
      ⟨some 163, (.move (.tmp 0)), 3, some (162, false)⟩,
      ⟨some 164, (.move (.tmp 1)), 22, some (162, false)⟩,
      ⟨some 165, (.move (.tmp 23)), 22, some (162, false)⟩,
      ⟨some 166, (.call ⟨(.value (.func 17)), #[(.tmp 163), (.tmp 164), (.tmp 165)], #[3, 22, 22]⟩), 28, some (162, false)⟩,
      ⟨some 167, (.binOp .neq 28 (.tmp 166) (.const (.int .i64 0)) 28), 4, some (162, false)⟩,
      ⟨some 168, (.pick (.tmp 162) (.const (.bool true)) (.tmp 167)), 4, none⟩])
    (.cond (.tmp 168)
    (.seq (.reg [] [⟨some 6, (.assign (.const (.bool false))), 4, none⟩])
    .ret)
    .skip))
    (.seq (.reg [] [⟨some 24, (.assign (.const (.int .i64 0))), 3, none⟩])
    (.block 2 (.loop (.seq (.seq (.reg [] [⟨some 169, (.move (.tmp 24)), 3, none⟩,
      ⟨some 170, (.move (.tmp 1)), 22, none⟩,
      ⟨some 171, (.call ⟨(.builtin .len), #[(.tmp 170)], #[22]⟩), 3, none⟩,
      ⟨some 172, (.binOp .lss 3 (.tmp 169) (.tmp 171) 3), 4, none⟩])
    (.cond (.tmp 172)
    .skip
    (.exit 2)))
    (.seq (.block 3 (.seq (.reg [] [⟨some 176, (.move (.tmp 23)), 22, none⟩,
      ⟨some 177, (.move (.tmp 1)), 22, none⟩,
      ⟨some 178, (.move (.tmp 24)), 3, none⟩,
      ⟨some 179, (.indexAddr 22 (.tmp 177) (.tmp 178)), 0, none⟩,
      ⟨some 180, (.load 23 (.tmp 179)), 23, none⟩,
      ⟨some 181, (.call ⟨(.value (.func 14)), #[(.tmp 176), (.tmp 180)], #[22, 23]⟩), 29, none⟩,
      ⟨some 175, (.move (.tmp 181)), 29, none⟩,
      ⟨some 182, (.extract (.tmp 175) 0), 27, none⟩,
      ⟨some 183, (.extract (.tmp 175) 1), 28, none⟩,
      ⟨some 25, (.assign (.tmp 182)), 27, none⟩,
      ⟨some 26, (.assign (.tmp 183)), 28, none⟩])
    (.seq (.seq (.reg [] [⟨some 184, (.move (.tmp 26)), 28, none⟩,
      ⟨some 185, (.binOp .neq 28 (.tmp 184) (.const (.int .i64 0)) 28), 4, none⟩,
      ⟨some 186, (.move (.tmp 185)), 4, none⟩,
      ⟨some 187, (.move (.tmp 25)), 27, some (186, false)⟩,
      ⟨some 188, (.call ⟨(.builtin .len), #[(.tmp 187)], #[27]⟩), 3, some (186, false)⟩,
      ⟨some 189, (.binOp .neq 3 (.tmp 188) (.const (.int .i64 1)) 3), 4, some (186, false)⟩,
      ⟨some 190, (.pick (.tmp 186) (.const (.bool true)) (.tmp 189)), 4, none⟩])
    (.cond (.tmp 190)
    (.seq (.reg [] [⟨some 6, (.assign (.const (.bool false))), 4, none⟩])
    .ret)
    .skip))
    (.seq (.reg [] [⟨some 192, (.move (.tmp 23)), 22, none⟩,
      ⟨some 193, (.move (.tmp 25)), 27, none⟩,
      ⟨some 194, (.indexAddr 27 (.tmp 193) (.const (.int .i64 0))), 0, none⟩,
      ⟨some 195, (.load 62 (.tmp 194)), 62, none⟩,
      ⟨some 196, (.call ⟨(.value (.func 40)), #[(.tmp 192), (.tmp 195)], #[22, 62]⟩), 59, none⟩,
      ⟨some 191, (.move (.tmp 196)), 59, none⟩,
      ⟨some 197, (.extract (.tmp 191) 0), 23, none⟩,
      ⟨some 198, (.extract (.tmp 191) 1), 28, none⟩,
      ⟨some 27, (.assign (.tmp 197)), 23, none⟩,
      ⟨some 26, (.assign (.tmp 198)), 28, none⟩])
    (.seq (.reg [] [⟨some 199, (.move (.tmp 26)), 28, none⟩,
      ⟨some 200, (.binOp .neq 28 (.tmp 199) (.const (.int .i64 0)) 28), 4, none⟩,
      ⟨some 201, (.move (.tmp 200)), 4, none⟩,
      ⟨some 202, (.move (.tmp 27)), 23, some (201, false)⟩,
      ⟨some 203, (.move (.tmp 1)), 22, some (201, false)⟩,
      ⟨some 204, (.move (.tmp 24)), 3, some (201, false)⟩,
      ⟨some 205, (.indexAddr 22 (.tmp 203) (.tmp 204)), 0, some (201, false)⟩,
      ⟨some 206, (.load 23 (.tmp 205)), 23, some (201, false)⟩,
      ⟨some 207, (.call ⟨(.value (.func 41)), #[(.tmp 202), (.tmp 206)], #[23, 23]⟩), 4, some (201, false)⟩,
      ⟨some 208, (.unOp .not 4 (.tmp 207)), 4, some (201, false)⟩,
      ⟨some 209, (.pick (.tmp 201) (.const (.bool true)) (.tmp 208)), 4, none⟩])
    (.cond (.tmp 209)
    (.seq (.reg [] [⟨some 6, (.assign (.const (.bool false))), 4, none⟩])
    .ret)
    .skip))))))
    (.reg [] [⟨some 173, (.move (.tmp 24)), 3, none⟩,
      ⟨some 174, (.binOp .add 3 (.tmp 173) (.const (.int .i64 1)) 3), 3, none⟩,
      ⟨some 24, (.assign (.tmp 174)), 3, none⟩])))))))))))))
    (.reg [] [⟨some 113, (.move (.tmp 19)), 3, none⟩,
      ⟨some 114, (.binOp .add 3 (.tmp 113) (.const (.int .i64 1)) 3), 3, none⟩,
      ⟨some 19, (.assign (.tmp 114)), 3, none⟩]))))))
    (.seq (.reg [] [⟨some 6, (.assign (.const (.bool true))), 4, none⟩])
    .ret))))))))))))
theorem C10 {args : List AV} {r : AV} (hn : args.length ≤ 210) (h : vc Tryz.prog T [] A10 (Fin T [(.tmp 6)] r) ⟨envOf 0 args, []⟩) : CallP Tryz.prog 10 args r :=
  callP_of tok mixed Tryz.func10 (by kernel_rfl) (by kernel_rfl) (by kernel_rfl : Tryz.f10.ntmps = 210) (by kernel_rfl : Tryz.f10.body.bind (strip 210 (fun _ => [])) = some A10) hn h
def A39 : ACode :=
  (.seq (.reg [] [⟨some 4, (.assign (.const (.slice none 0 0))), 22, none⟩])
    (.seq (.reg [] [⟨some 5, (.assign (.const (.slice none 0 0))), 22, none⟩])
    (.seq (.reg [] [⟨some 6, (.assign (.const (.slice none 0 0))), 23, none⟩])
    (.seq (.reg [] [⟨some 12, (.move (.tmp 1)), 22, none⟩,
      ⟨some 13, (.call ⟨(.builtin .len), #[(.tmp 12)], #[22]⟩), 3, none⟩,
      ⟨some 14, (.makeSlice 23 (.tmp 13) (.tmp 13)), 23, none⟩,
      ⟨some 7, (.assign (.tmp 14)), 23, none⟩])
    (.seq (.seq (.reg [] [⟨some 8, (.assign (.const (.int .i64 0))), 3, none⟩])
    (.block 0 (.loop (.seq (.seq (.reg [] [⟨some 15, (.move (.tmp 8)), 3, none⟩,
      ⟨some 16, (.move (.tmp 1)), 22, none⟩,
      ⟨some 17, (.call ⟨(.builtin .len), #[(.tmp 16)], #[22]⟩), 3, none⟩,
      ⟨some 18, (.binOp .lss 3 (.tmp 15) (.tmp 17) 3), 4, none⟩])
    (.cond (.tmp 18)
    .skip
    (.exit 0)))
    (.seq (.block 1 (.reg [] [⟨some 21, (.move (.tmp 7)), 23, none⟩,
      ⟨some 22, (.move (.tmp 8)), 3, none⟩,
      ⟨some 23, (.move (.tmp 1)), 22, none⟩,
      ⟨some 24, (.move (.tmp 8)), 3, none⟩,
      ⟨some 25, (.indexAddr 22 (.tmp 23) (.tmp 24)), 0, none⟩,
      ⟨some 26, (.load 23 (.tmp 25)), 23, none⟩,
      ⟨some 27, (.call ⟨(.builtin .len), #[(.tmp 26)], #[23]⟩), 3, none⟩,
      ⟨some 28, (.indexAddr 23 (.tmp 21) (.tmp 22)), 0, none⟩,
      ⟨none, (.store 3 (.tmp 28) (.tmp 27)), 0, none⟩]))
    (.reg [] [⟨some 19, (.move (.tmp 8)), 3, none⟩,
      ⟨some 20, (.binOp .add 3 (.tmp 19) (.const (.int .i64 1)) 3), 3, none⟩,
      ⟨some 8, (.assign (.tmp 20)), 3, none⟩]))))))
    (.seq (.seq (.reg [] [⟨some 9, (.assign (.const (.int .i64 0))), 3, none⟩])
    (.block 2 (.loop (.seq (.seq (.reg [] [⟨some 29, (.move (.tmp 9)), 3, none⟩,
      ⟨some 30, (.move (.tmp 0)), 23, none⟩,
      ⟨some 31, (.call ⟨(.builtin .len), #[(.tmp 30)], #[23]⟩), 3, none⟩,
      ⟨some 32, (.binOp .lss 3 (.tmp 29) (.tmp 31) 3), 4, none⟩])
    (.cond (.tmp 32)
    .skip
    (.exit 2)))
    (.seq (.block 3 (.seq (.reg [] [⟨some 35, (.move (.tmp 6)), 23, none⟩,
      ⟨some 36, (.move (.tmp 0)), 23, none⟩,
      ⟨some 37, (.move (.tmp 9)), 3, none⟩,
      ⟨some 38, (.indexAddr 23 (.tmp 36) (.tmp 37)), 0, none⟩,
      ⟨some 39, (.load 3 (.tmp 38)), 3, none⟩,
      ⟨some 40, (.buildSlice 23 1 #[(0, (.tmp 39))]), 23, none⟩,
      ⟨some 41, (.call ⟨(.builtin .append), #[(.tmp 35), (.tmp 40)], #[23, 23]⟩), 23, none⟩,
      ⟨some 6, (.assign (.tmp 41)), 23, none⟩])
    (.seq (.reg [] [⟨some 42, (.move (.tmp 9)), 3, none⟩,
      ⟨some 43, (.move (.tmp 0)), 23, none⟩,
      ⟨some 44, (.call ⟨(.builtin .len), #[(.tmp 43)], #[23]⟩), 3, none⟩,
      ⟨some 45, (.binOp .sub 3 (.tmp 44) (.const (.int .i64 1)) 3), 3, none⟩,
      ⟨some 46, (.binOp .eql 3 (.tmp 42) (.tmp 45) 3), 4, none⟩,
      ⟨some 10, (.assign (.tmp 46)), 4, none⟩])
    (.seq (.seq (.reg [] [⟨some 11, (.assign (.const (.int .i64 0))), 3, none⟩])
    (.block 4 (.loop (.seq (.seq (.reg [] [⟨some 47, (.move (.tmp 11)), 3, none⟩,
      ⟨some 48, (.move (.tmp 1)), 22, none⟩,
      ⟨some 49, (.call ⟨(.builtin .len), #[(.tmp 48)], #[22]⟩), 3, none⟩,
      ⟨some 50, (.binOp .lss 3 (.tmp 47) (.tmp 49) 3), 4, none⟩])
    (.cond (.tmp 50)
    .skip
    (.exit 4)))
    (.seq (.block 5 (.seq (.draw [] [⟨some 53, (.move (.tmp 1)), 22, none⟩,
      ⟨some 54, (.move (.tmp 11)), 3, none⟩,
      ⟨some 55, (.indexAddr 22 (.tmp 53) (.tmp 54)), 0, none⟩,
      ⟨some 56, (.load 23 (.tmp 55)), 23, none⟩,
      ⟨some 57, (.move (.tmp 0)), 23, none⟩,
      ⟨some 58, (.move (.tmp 9)), 3, none⟩,
      ⟨some 59, (.indexAddr 23 (.tmp 57) (.tmp 58)), 0, none⟩,
      ⟨some 60, (.load 3 (.tmp 59)), 3, none⟩,
      ⟨some 61, (.call ⟨(.value (.func 80)), #[(.tmp 56), (.tmp 60)], #[23, 3]⟩), 4, none⟩] [(0, 1), (0, 4), (1, 4), (2, 4), (3, 4), (0, 5), (1, 5), (2, 5), (3, 5), (4, 5), (0, 6), (1, 6), (2, 6), (3, 6), (0, 7), (1, 7), (2, 7), (3, 7)])
    (.cond (.tmp 61)
    (.seq (.reg [] [⟨some 62, (.move (.tmp 7)), 23, none⟩,
      ⟨some 63, (.move (.tmp 11)), 3, none⟩,
      ⟨some 64, (.indexAddr 23 (.tmp 62) (.tmp 63)), 0, none⟩,
      ⟨some 65, (.load 3 (.tmp 64)), 3, none⟩,
      ⟨some 66, (.binOp .sub 3 (.tmp 65) (.const (.int .i64 1)) 3), 3, none⟩,
      ⟨some 67, (.indexAddr 23 (.tmp 62) (.tmp 63)), 0, none⟩,
      ⟨none, (.store 3 (.tmp 67) (.tmp 66)), 0, none⟩])
    (.reg [] [⟨some 68, (.move (.tmp 10)), 4, none⟩,
      ⟨some 69, (.move (.tmp 68)), 4, none⟩,
      ⟨some 70, (.move (.tmp 7)), 23, some (69, false)⟩,
      ⟨some 71, (.move (.tmp 11)), 3, some (69, false)⟩,
      ⟨some 72, (.indexAddr 23 (.tmp 70) (.tmp 71)), 0, some (69, false)⟩,
      ⟨some 73, (.load 3 (.tmp 72)), 3, some (69, false)⟩,
      ⟨some 74, (.binOp .eql 3 (.tmp 73) (.const (.int .i64 0)) 3), 4, some (69, false)⟩,
      ⟨some 75, (.pick (.tmp 69) (.const (.bool true)) (.tmp 74)), 4, none⟩,
      ⟨some 10, (.assign (.tmp 75)), 4, none⟩]))
    .skip)))
    (.reg [] [⟨some 51, (.move (.tmp 11)), 3, none⟩,
      ⟨some 52, (.binOp .add 3 (.tmp 51) (.const (.int .i64 1)) 3), 3, none⟩,
      ⟨some 11, (.assign (.tmp 52)), 3, none⟩]))))))
    (.seq (.reg [] [⟨some 76, (.move (.tmp 10)), 4, none⟩])
    (.cond (.tmp 76)
    (.seq (.reg [] [⟨some 77, (.move (.tmp 5)), 22, none⟩,
      ⟨some 78, (.move (.tmp 6)), 23, none⟩,
      ⟨some 79, (.buildSlice 22 1 #[(0, (.tmp 78))]), 22, none⟩,
      ⟨some 80, (.call ⟨(.builtin .append), #[(.tmp 77), (.tmp 79)], #[22, 22]⟩), 22, none⟩,
      ⟨some 5, (.assign (.tmp 80)), 22, none⟩])
    (.reg [] [⟨some 6, (.assign (.const (.slice none 0 0))), 23, none⟩]))
    .skip))))))
    (.reg [] [⟨some 33, (.move (.tmp 9)), 3, none⟩,
      ⟨some 34, (.binOp .add 3 (.tmp 33) (.const (.int .i64 1)) 3), 3, none⟩,
      ⟨some 9, (.assign (.tmp 34)), 3, none⟩]))))))
    (.seq (.reg [] [⟨some 81, (.move (.tmp 5)), 22, none⟩,
      ⟨some 4, (.assign (.tmp 81)), 22, none⟩])
    .ret)))))))
theorem C39 {args : List AV} {r : AV} (hn : args.length ≤ 82) (h : vc Tryz.prog T [] A39 (Fin T [(.tmp 4)] r) ⟨envOf 0 args, []⟩) : CallP Tryz.prog 39 args r :=
  callP_of tok mixed Tryz.func39 (by kernel_rfl) (by kernel_rfl) (by kernel_rfl : Tryz.f39.ntmps = 82) (by kernel_rfl : Tryz.f39.body.bind (strip 82 (fun _ => [])) = some A39) hn h

end Go.Proofs.YtgfgkfkplidncaaGreat
end

section
/- Contracts: where sets end in an order; marks. -/
namespace Go.Proofs.YtgfgkfkplidncaaGreat
open Go.Abs Go
set_option maxRecDepth 20000
set_option maxHeartbeats 2000000
attribute [local irreducible] PreK CondK CallK CallG CallX LoopK
attribute [local simp] avsEq avEq akind teq vkind vEq

theorem pos_bnd (o : List Int) (s : Int) : -1 ≤ posO o s ∧ posO o s < o.length := by
  unfold posO
  by_cases h : s ∈ o
  · obtain ⟨a, b, rfl, ha⟩ := split_at h
    rw [idxF_at a b 0 ha]
    simp only [List.length_append, List.length_cons]
    omega
  · rw [idxF_none o 0 h]
    omega
theorem CT79 {args : List AV} {sz : Nat} {els : List AV} {u : Value} (hn : args.length ≤ 51) (hu : u.oneCell' = true) (h : vc Tryz.prog T [] A79 (FinT [(.tmp 4), (.tmp 5)] sz els u) ⟨envOf 0 args, []⟩) : CallT Tryz.prog 79 args sz els u :=
  callT_of tok mixed Tryz.func79 (by kernel_rfl) (by kernel_rfl) (by kernel_rfl : Tryz.f79.ntmps = 51) (by kernel_rfl : Tryz.f79.body.bind (strip 51 (fun _ => [])) = some A79) hn hu h
theorem CallT.toP {P : Program} {f : FuncId} {args : List AV} {sz : Nat} {els : List AV} {u : Value} (h : CallT P f args sz els u) : CallP P f args (.tup [.seq sz els false, .raw u]) := by
  refine ⟨h.1, fun w X vs hX hlen hargs => Calls.mono (h.2.2 w X vs hX hlen hargs) ?_⟩
  rintro e w' ⟨v, rfl, hg, ho⟩
  have hseq : Rep w' X Mu.none (.seq sz els false) v := by
    rcases ho with ⟨rfl, p, rfl⟩ | ⟨g, base, cap, c, el, rfl, _, hge, hw, hcap, hfit, hbig, h1, hr⟩
    · exact .nil
    · have hx : ¬ X g := fun hx => by have := hX g hx; omega
      have hm : els.length * sz ≤ cap * sz := Nat.mul_le_mul_right _ hcap
      refine .seq hx hw hcap (fun h => by cases h) hbig (by omega) (fun i hi => (hr i hi).1) (fun j _ hj => h1 j (by omega)) fun i hi => ?_
      exact (hr i hi).2.mono (fun q hq _ => ⟨fun hy => hq (.inl hy), rfl⟩) (Mu.later.refl _)
  refine ⟨_, rfl, hg, .tup rfl fun i hi => ?_⟩
  match i, hi with
  | 0, _ => exact hseq
  | 1, _ => exact .raw h.2.1
theorem ends_t (f : List (List Int)) (o : List Int) (hf : Sm f) (ho : o.length ≤ 100) : CallT Tryz.prog 79 [tabV f, ints o] 1 ((if fitsM o f then lastsM o f else []).map iv) (.bool (fitsM o f)) := by
  refine CT79 (by simp) rfl ?_
  have hn := hf.num
  generalize hF : fitsM o f = F
  generalize hL : lastsM o f = L
  simp [A79]
  refine LoopK.by (ι := Nat × Nat × List Int) (fun x => ⟨[(16, iv x.1), (15, iv f.length), (14, tabV f), (6, .sl 6 x.2.1 0 x.2.2.length), (1, ints o)], [(6, some ⟨1, x.2.2.map iv, x.2.1, false⟩)]⟩) (fun x => f.length - x.1)
    (fun x => x.1 ≤ f.length ∧ x.2.2.length = x.1 ∧ x.2.2 ++ lastsM o (f.drop x.1) = L ∧ fitsM o (f.drop x.1) = F) (0, 1, []) ⟨Nat.zero_le _, rfl, by simpa using hL, by simpa using hF⟩ (by simp) ?_
  intro ⟨i, ver, acc⟩ Q' ⟨hi, hal, hc, hc2⟩ hq he hr
  dsimp only at hi hal hc hc2
  try simp 
  refine CondK.intro (fun h1 => ?_) (fun h1 => ?_)
  · simp at h1
    have hel := hf.el i
    rw [drop_cons f i h1] at hc hc2
    rw [show fitsM o (el f i :: f.drop (i + 1)) = (fit1 o (el f i) && fitsM o (f.drop (i + 1))) from rfl] at hc2
    rw [show lastsM o (el f i :: f.drop (i + 1)) = (edges o (el f i)).2 :: lastsM o (f.drop (i + 1)) from rfl] at hc
    unfold fit1 at hc2
    have hE : flP o (el f i) (o.length, -1) = edges o (el f i) := rfl
    generalize edges o (el f i) = E at hc hc2 hE
    try simp [h1]
    repeat (refine PreK.intro (by first | omega | (intros; first | omega | (refine ⟨by omega, ?_⟩; simp_all; done) | (simp_all; done) | (simp_all; omega))) fun _ => ?_; (try simp [h1]))
    refine LoopK.by (ι := Nat × Int × Int) (fun x => ⟨[(24, iv x.1), (23, iv (el f i).length), (22, ints (el f i)), (9, iv x.2.1), (10, iv x.2.2), (8, ints (el f i)), (16, iv i), (15, iv f.length), (14, tabV f), (6, .sl 6 ver 0 acc.length), (1, ints o)], [(6, some ⟨1, acc.map iv, ver, false⟩)]⟩) (fun x => (el f i).length - x.1)
      (fun x => x.1 ≤ (el f i).length ∧ (-1 ≤ x.2.1 ∧ x.2.1 ≤ 100) ∧ (-1 ≤ x.2.2 ∧ x.2.2 ≤ 100) ∧ flP o ((el f i).drop x.1) (x.2.1, x.2.2) = E) (0, (o.length : Int), -1) ⟨Nat.zero_le _, by dsimp only; omega, by dsimp only; omega, by simpa using hE⟩ (by simp) ?_
    intro ⟨k, a, b⟩ Q2 ⟨hk, ha, hb, hc3⟩ hq2 he2 hr2
    dsimp only at hk ha hb hc3
    try simp 
    refine CondK.intro (fun h2 => ?_) (fun h2 => ?_)
    · simp at h2
      have hix := index_c o (el (el f i) k) (sbig (by omega))
      have hpb := pos_bnd o (el (el f i) k)
      rw [drop_cons (el f i) k h2, flP] at hc3
      dsimp only at hc3
      rw [show idxF (fun x => decide (el (el f i) k = x)) 0 o = posO o (el (el f i) k) from rfl] at hix
      generalize posO o (el (el f i) k) = p at hix hpb hc3
      try simp [h2]
      repeat (refine PreK.intro (by first | omega | (intros; first | omega | (refine ⟨by omega, ?_⟩; simp_all; done) | (simp_all; done) | (simp_all; omega))) fun _ => ?_; (try simp [h2]))
      try simp [h2]
      repeat' (first
        | (refine CallX.pure (hix) (by simp) (by simp) ?_; try simp [h2])
        | (refine CallK.intro (hix) (by simp) (by simp) ?_; try simp [h2])
        | (refine CallG.intro (fun _ => hix) (by simp) (by simp) ?_; try simp [h2])
        | ((with_reducible refine PreK.intro ?_ ?_); (next => (first | omega | (intros; first | omega | (refine ⟨by omega, ?_⟩; repeat (first | assumption | constructor)) | assumption))); intro _; try simp [h2])
        | fail)
      repeat (refine PreK.intro (by first | omega | (intros; first | omega | (refine ⟨by omega, ?_⟩; simp_all; done) | (simp_all; done) | (simp_all; omega))) fun _ => ?_; (try simp ))
      have e1 : min a p = if p < a then p else a := by split <;> omega
      have e2 : max b p = if b < p then p else b := by split <;> omega
      rw [e1, e2] at hc3
      exact hq2 (k + 1, (if p < a then p else a), (if b < p then p else b)) _ ⟨by dsimp only; omega, by dsimp only; split <;> omega, by dsimp only; split <;> omega, hc3⟩ (by dsimp only; omega) (by simp)
    · simp at h2
      rw [List.drop_eq_nil_of_le (by omega), flP] at hc3
      subst hc3
      dsimp only at hc hc2
      try simp 
      apply he2
      repeat (refine PreK.intro (by first | omega | (intros; first | omega | (refine ⟨by omega, ?_⟩; simp_all; done) | (simp_all; done) | (simp_all; omega))) fun _ => ?_; (try simp ))
      refine CondK.intro (fun h3 => ?_) (fun h3 => ?_)
      · simp at h3
        have : F = false := by rw [← hc2]; simp [h3]
        subst this
        try simp 
        apply hr
        try simp 
        repeat (refine PreK.intro (by first | omega | (intros; first | omega | (refine ⟨by omega, ?_⟩; simp_all; done) | (simp_all; done) | (simp_all; omega))) fun _ => ?_; (try simp ))
      · simp at h3
        have : fitsM o (f.drop (i + 1)) = F := by rw [← hc2]; simp [h3]
        repeat (refine PreK.intro (by first | omega | (intros; first | omega | (refine ⟨by omega, ?_⟩; simp_all; done) | (simp_all; done) | (simp_all; omega))) fun _ => ?_; (try simp ))
        exact hq (i + 1, ver + 1, acc ++ [b]) _ ⟨by dsimp only; omega, by simp; omega, by simpa using hc, this⟩ (by dsimp only; omega) (by simp)
  · simp at h1
    rw [List.drop_eq_nil_of_le (by omega)] at hc hc2
    have h3 : F = true := by rw [← hc2]; rfl
    simp only [lastsM, List.map_nil, List.append_nil] at hc
    subst hc h3
    try simp 
    apply he
    try simp 
    repeat (refine PreK.intro (by first | omega | (intros; first | omega | (refine ⟨by omega, ?_⟩; simp_all; done) | (simp_all; done) | (simp_all; omega))) fun _ => ?_; (try simp ))
theorem ends_c (f : List (List Int)) (o : List Int) (hf : Sm f) (ho : o.length ≤ 100) : CallP Tryz.prog 79 [tabV f, ints o] (.tup [ints (if fitsM o f then lastsM o f else []), bv (fitsM o f)]) := CallT.toP (ends_t f o hf ho)
def marksP (f : List (List Int)) (o : List Int) : List Int := if fitsM o f then marksM o f else [(o.length : Int) - 1]
theorem marks_c (f : List (List Int)) (o : List Int) (hf : Sm f) (ho : o.length ≤ 100) : CallP Tryz.prog 71 [tabV f, ints o] (.tup [ints (marksP f o), bv (fitsM o f)]) := by
  refine C71 (by simp) ?_
  have hn := hf.num
  have hec := ends_t f o hf ho
  have hl : (if fitsM o f = true then lastsM o f else []).length ≤ 50 := by
    split
    · simp [lastsM]; exact hn
    · simp
  have hmp : marksP f o = compI (sortI ((if fitsM o f = true then lastsM o f else []) ++ [(o.length : Int) - 1])) := by
    unfold marksP marksM
    split
    · rfl
    · have : sortI ([] ++ [(o.length : Int) - 1]) = [(o.length : Int) - 1] := sortI_eq (List.Perm.refl _) (by simp)
      rw [this]; rfl
  rw [hmp]
  generalize (if fitsM o f = true then lastsM o f else []) = l at *
  generalize fitsM o f = F at *
  have hs1 := sortI_L (l ++ [(o.length : Int) - 1])
  have hsl := sortI_len (l ++ [(o.length : Int) - 1])
  generalize sortI (l ++ [(o.length : Int) - 1]) = s at hs1 hsl ⊢
  simp only [List.length_append, List.length_cons, List.length_nil] at hsl
  have hs2 := Compact_L s (by omega)
  have hcn := compI_num s
  generalize compI s = u at hs2 hcn ⊢
  simp [A71]
  refine CallX.two (by simpa using hec) (by simp) ?_
  repeat (refine PreK.intro (by first | omega | (intros; first | omega | (refine ⟨by omega, ?_⟩; simp_all; done) | (simp_all; done) | (simp_all; omega))) fun _ => ?_; (try simp ))
  refine CallX.lend [] (id := 11) (ver := 2) (n := l.length + 1) (b := ⟨1, (l ++ [(o.length : Int) - 1]).map iv, 2, false⟩) [] (.val (.tup [])) _ (by simp) (by simp) (by simp) (by simp) (by simp) (by simp) (by simp) (by simpa using hs1) ?_
  try simp 
  refine CallX.lend [] (id := 11) (ver := 2) (n := l.length + 1) (b := ⟨1, s.map iv, 2, false⟩) [] (.part u.length) _ (by simp) (by simp) (by simp) (by simp) (by simp [hsl]) (by simp) (by simp) (by simpa using hs2) ?_
  repeat (refine PreK.intro (by first | omega | (intros; first | omega | (refine ⟨by omega, ?_⟩; simp_all; done) | (simp_all; done) | (simp_all; omega))) fun _ => ?_; (try simp [hsl]))
end Go.Proofs.YtgfgkfkplidncaaGreat
end

section
/- Contracts: the orders told one by one; the first order that a family fits, and the best one. -/
namespace Go.Proofs.YtgfgkfkplidncaaGreat
open Go.Abs Go
set_option maxRecDepth 20000
set_option maxHeartbeats 2000000
attribute [local irreducible] PreK CondK CallK CallG CallX LoopK
attribute [local simp] avsEq avEq akind teq vkind vEq nilOK nilArg nilOf

@[simp] theorem vcOps_nilEqG {P : Program} {T : TT} {O : List Nat} {s : St} {d : Option Nat} {t t' ty : Nat} {x : Operand} {g : Nat × Bool} {l : List AOper} {K : St → Prop} :
    vcOps P T O (⟨d, .binOp .eql t x (.const (.slice none 0 0)) t', ty, some g⟩ :: l) K s = vcOp P T O ⟨d, .binOp .eql t x (.const (.slice none 0 0)) t', ty, some g⟩ s (vcOps P T O l K) := Eq.trans rfl rfl
/-- A variable that is nil or a list that is not empty. -/
def slV (o : List Int) : AV := if o = [] then .raw (.slice none 0 0) else ints o
theorem slV_nil : slV [] = .raw (.slice none 0 0) := rfl
theorem slV_ne {o : List Int} (h : o ≠ []) : slV o = .seq 1 (o.map iv) false := by simp [slV, h]
theorem slV_cases (o : List Int) : slV o = .raw (.slice none 0 0) ∨ slV o = .seq 1 (o.map iv) false := by
  unfold slV; split
  · exact .inl rfl
  · exact .inr rfl
@[simp] theorem refs_slV (o : List Int) : AV.refs (slV o) = [] := by
  rcases slV_cases o with h | h <;> rw [h] <;> rfl
@[simp] theorem renA_slV (f : Nat → Nat → Option (Nat × Nat)) (o : List Int) : renA f (slV o) = slV o := by
  rcases slV_cases o with h | h <;> rw [h] <;> rfl
@[simp] theorem frzA_slV (x : Box) (id : Nat) (o : List Int) : frzA x id (slV o) = slV o := by
  rcases slV_cases o with h | h <;> rw [h] <;> rfl
@[simp] theorem leE_slV (o : List Int) : leE (slV o) (slV o) = True := by
  simp only [leE_refl]
def oP : List AV := [.pt 101 0 0 0, .pt 102 0 0 0]
def oM (f : List (List Int)) (s : List Int) : List (Nat × Option Box) := [(101, some ⟨1, [tabV f], 0, true⟩), (102, some ⟨1, [slV s], 0, true⟩)]
theorem fam_sm {n : Nat} {f : List (List Int)} (h : FamOK n f) : Sm f := by
  have h1 := h.hi
  refine ⟨by have := h.num; omega, fun r hr => ?_⟩
  have := nodup_le (pairwise_lt_nodup (h.up r hr)) fun x hx => mem_ids.2 (h.val r hr x hx)
  rw [ids_len] at this
  omega
theorem ord_ne {n : Nat} {o : List Int} (h0 : 1 ≤ n) (h : OrdOK n o) : o ≠ [] := fun e => by
  have := h.len
  subst e
  simp at this
  omega
theorem order1_b (f : List (List Int)) (n : Nat) (hf : FamOK n f) (s o : List Int) (ho : OrdOK n o) : CallB Tryz.prog 78 (ints o :: oP) (oM f s) (bv (stepO f s o).2) (oM f (stepO f s o).1) := by
  have hec := ends_c f o (fam_sm hf) (by have := ho.len; have := hf.hi; omega)
  have hne := ord_ne hf.lo ho
  refine CB78 (by simp [oP]) (by simp [oM]) ?_
  unfold stepO
  generalize fitsM o f = F at *
  cases F with
  | true =>
    simp only [if_true, hne, decide_false] at hec ⊢
    simp only [oM, slV_ne hne]
    rcases slV_cases s with es | es
    all_goals
      simp only [es]
      simp [A78, oP]
      try simp 
      repeat' (first
        | (refine CallX.pure (hec) (by simp) (by simp) ?_; try simp )
        | (refine CallK.intro (hec) (by simp) (by simp) ?_; try simp )
        | (refine CallG.intro (fun _ => hec) (by simp) (by simp) ?_; try simp )
        | ((with_reducible refine PreK.intro ?_ ?_); (next => (first | omega | (intros; first | omega | (refine ⟨by omega, ?_⟩; repeat (first | assumption | constructor)) | assumption))); intro _; try simp )
        | fail)
      refine CondK.tt ?_
      try simp 
      repeat (refine PreK.intro (by first | omega | (intros; first | omega | (refine ⟨by omega, ?_⟩; simp_all; done) | (simp_all; done) | (simp_all; omega))) fun _ => ?_; (try simp ))
      intro b hb
      have : b = false := by
        cases b with
        | false => rfl
        | true => simp at hb; exact absurd hb hne
      subst this
      repeat (refine PreK.intro (by first | omega | (intros; first | omega | (refine ⟨by omega, ?_⟩; simp_all; done) | (simp_all; done) | (simp_all; omega))) fun _ => ?_; (try simp ))
  | false =>
    simp only [Bool.false_eq_true, if_false] at hec ⊢
    by_cases hs : s = []
    · subst hs
      simp only [oM, slV_nil]
      simp [A78, oP]
      try simp 
      repeat' (first
        | (refine CallX.pure (hec) (by simp) (by simp) ?_; try simp )
        | (refine CallK.intro (hec) (by simp) (by simp) ?_; try simp )
        | (refine CallG.intro (fun _ => hec) (by simp) (by simp) ?_; try simp )
        | ((with_reducible refine PreK.intro ?_ ?_); (next => (first | omega | (intros; first | omega | (refine ⟨by omega, ?_⟩; repeat (first | assumption | constructor)) | assumption))); intro _; try simp )
        | fail)
      refine CondK.ff ?_
      try simp 
      repeat (refine PreK.intro (by first | omega | (intros; first | omega | (refine ⟨by omega, ?_⟩; simp_all; done) | (simp_all; done) | (simp_all; omega))) fun _ => ?_; (try simp ))
      intro b hb
      simp at hb
      subst hb
      repeat (refine PreK.intro (by first | omega | (intros; first | omega | (refine ⟨by omega, ?_⟩; simp_all; done) | (simp_all; done) | (simp_all; omega))) fun _ => ?_; (try simp ))
    · simp only [oM, slV_ne hs]
      simp [A78, oP]
      try simp 
      repeat' (first
        | (refine CallX.pure (hec) (by simp) (by simp) ?_; try simp )
        | (refine CallK.intro (hec) (by simp) (by simp) ?_; try simp )
        | (refine CallG.intro (fun _ => hec) (by simp) (by simp) ?_; try simp )
        | ((with_reducible refine PreK.intro ?_ ?_); (next => (first | omega | (intros; first | omega | (refine ⟨by omega, ?_⟩; repeat (first | assumption | constructor)) | assumption))); intro _; try simp )
        | fail)
      refine CondK.ff ?_
      try simp 
      repeat (refine PreK.intro (by first | omega | (intros; first | omega | (refine ⟨by omega, ?_⟩; simp_all; done) | (simp_all; done) | (simp_all; omega))) fun _ => ?_; (try simp ))
      intro b hb
      have : b = false := by
        cases b with
        | false => rfl
        | true => simp at hb; exact absurd hb hs
      subst this
      simp [hs]

/-- What comes of a beginning by the sounds from i on. -/
def restF (n m : Nat) (b : List Int) (i : Nat) : List (List Int) := ((((idsN n).drop i).filter fun s => !b.contains s).map fun s => b ++ [s]).flatMap (ordF n m)
theorem restF_zero (n m : Nat) (b : List Int) : restF n m b 0 = ordF n (m + 1) b := by simp [restF, ordF, kidsO]
theorem restF_in {n m : Nat} {b : List Int} {i : Nat} (h : i < n) (hc : b.contains (i : Int) = true) : restF n m b i = restF n m b (i + 1) := by
  unfold restF
  rw [drop_cons _ i (by rw [ids_len]; exact h), el_ids h, List.filter_cons_of_neg (by simp only [hc]; simp)]
theorem restF_out {n m : Nat} {b : List Int} {i : Nat} (h : i < n) (hc : b.contains (i : Int) = false) : restF n m b i = ordF n m (b ++ [(i : Int)]) ++ restF n m b (i + 1) := by
  unfold restF
  rw [drop_cons _ i (by rw [ids_len]; exact h), el_ids h, List.filter_cons_of_pos (by simp only [hc]; simp), List.map_cons, List.flatMap_cons]
theorem restF_end {n m : Nat} {b : List Int} {i : Nat} (h : n ≤ i) : restF n m b i = [] := by
  unfold restF
  rw [List.drop_eq_nil_of_le (by rw [ids_len]; exact h)]
  rfl
theorem runT_one {σ : Type} (step : σ → List Int → σ × Bool) (s : σ) (o : List Int) : runT step s [o] = step s o := by
  rw [runT, runT]
  by_cases h : (step s o).2 = true
  · rw [if_pos h]; exact Prod.ext rfl h.symm
  · rw [if_neg h]; exact Prod.ext rfl (by simpa using h)
def anyI (_ : List Int) : Prop := True
theorem anyI_run (f : List (List Int)) (l : List (List Int)) (s : List Int) (_ : anyI s) : anyI (runT (stepO f) s l).1 := trivial
theorem orders1_b (f : List (List Int)) (n : Nat) (hf : FamOK n f) : ∀ (m : Nat) (b : List Int) (s : List Int), anyI s → b.Nodup → (∀ x ∈ b, 0 ≤ x ∧ x < n) → b.length + m = n →
    CallB Tryz.prog 77 [iv n, ints b, .fn 78 [] oP] (oM f s) (bv (runT (stepO f) s (ordF n m b)).2) (oM f (runT (stepO f) s (ordF n m b)).1)
  | 0, b, s, hs, h1, h2, h3 => by
    have ho : OrdOK n b := ordOK_of_perm (perm_of_sub h1 (fun x hx => mem_ids.2 (h2 x hx)) (by rw [ids_len]; omega)).symm
    have hd := order1_b f n hf s b ho
    have eR : runT (stepO f) s (ordF n 0 b) = stepO f s b := runT_one _ _ _
    rw [eR]
    generalize stepO f s b = R at hd
    obtain ⟨s2, r⟩ := R
    dsimp only at hd ⊢
    have hbl : (b.length : Int) = n := by omega
    refine CB77 (by simp [oP]) (by simp [oM]) ?_
    simp only [oM, oP] at hd
    simp [A77, oP, oM, hbl]
    refine CondK.tt ?_
    try simp 
    repeat (refine PreK.intro (by first | omega | (intros; first | omega | (refine ⟨by omega, ?_⟩; simp_all; done) | (simp_all; done) | (simp_all; omega))) fun _ => ?_; (try simp ))
    refine CallX.boxes [(101, 0, 101), (102, 0, 102)] (by simp) (by simpa using hd) ?_
    repeat (refine PreK.intro (by first | omega | (intros; first | omega | (refine ⟨by omega, ?_⟩; simp_all; done) | (simp_all; done) | (simp_all; omega))) fun _ => ?_; (try simp ))
  | m + 1, b, s, hs, h1, h2, h3 => by
    have hhi := hf.hi
    have hbl : ¬ (b.length : Int) = n := by omega
    refine CB77 (by simp [oP]) (by simp [oM]) ?_
    rw [← restF_zero]
    generalize hR : runT (stepO f) s (restF n m b 0) = R
    simp [A77, oP, oM, hbl]
    refine CondK.ff ?_
    try simp 
    repeat (refine PreK.intro (by first | omega | (intros; first | omega | (refine ⟨by omega, ?_⟩; simp_all; done) | (simp_all; done) | (simp_all; omega))) fun _ => ?_; (try simp ))
    refine LoopK.by (ι := Nat × List Int) (fun x => ⟨[(16, iv x.1), (15, iv n), (0, iv n), (1, ints b), (2, .fn 78 [] oP)], oM f x.2⟩) (fun x => n - x.1) (fun x => x.1 ≤ n ∧ anyI x.2 ∧ runT (stepO f) x.2 (restF n m b x.1) = R) (0, s) ⟨Nat.zero_le _, hs, hR⟩ (by simp [oM, oP]) ?_
    intro ⟨i, s1⟩ Q' ⟨hi, hs1, hc⟩ hq he hr
    dsimp only at hi hs1 hc
    simp only [oM, oP]
    try simp 
    refine CondK.intro (fun h4 => ?_) (fun h4 => ?_)
    · simp at h4
      have hcn := contains_c b i (sbig (by omega))
      rw [any_contains] at hcn
      have hin := anyI_run f (ordF n m (b ++ [(i : Int)])) s1 hs1
      have hrec := orders1_b f n hf m (b ++ [(i : Int)]) s1 hs1
      have hout := restF_out (n := n) (m := m) (b := b) h4
      have hinn := restF_in (n := n) (m := m) (b := b) h4
      have hmem : b.contains (i : Int) = false → (i : Int) ∉ b := fun h hm => by rw [List.contains_iff_mem.2 hm] at h; cases h
      have hclo := clone_o b (by omega)
      generalize b.contains (i : Int) = cb at *
      try simp 
      repeat' (first
        | (refine CallX.pure (hcn) (by simp) (by simp) ?_; try simp )
        | (refine CallK.intro (hcn) (by simp) (by simp) ?_; try simp )
        | (refine CallG.intro (fun _ => hcn) (by simp) (by simp) ?_; try simp )
        | ((with_reducible refine PreK.intro ?_ ?_); (next => (first | omega | (intros; first | omega | (refine ⟨by omega, ?_⟩; repeat (first | assumption | constructor)) | assumption))); intro _; try simp )
        | fail)
      cases cb with
      | true =>
        rw [hinn rfl] at hc
        try simp 
        repeat (refine PreK.intro (by first | omega | (intros; first | omega | (refine ⟨by omega, ?_⟩; simp_all; done) | (simp_all; done) | (simp_all; omega))) fun _ => ?_; (try simp ))
        refine CallG.intro (r := (.seq 1 [] false)) (fun hh => by cases hh) (by simp) (by simp) ?_
        try simp 
        try simp 
        repeat (refine PreK.intro (by first | omega | (intros; first | omega | (refine ⟨by omega, ?_⟩; simp_all; done) | (simp_all; done) | (simp_all; omega))) fun _ => ?_; (try simp ))
        refine CallG.intro (r := (bv true)) (fun hh => by cases hh) (by simp) (by simp) ?_
        try simp 
        try simp 
        repeat (refine PreK.intro (by first | omega | (intros; first | omega | (refine ⟨by omega, ?_⟩; simp_all; done) | (simp_all; done) | (simp_all; omega))) fun _ => ?_; (try simp ))
        refine CondK.ff ?_
        try simp 
        repeat (refine PreK.intro (by first | omega | (intros; first | omega | (refine ⟨by omega, ?_⟩; simp_all; done) | (simp_all; done) | (simp_all; omega))) fun _ => ?_; (try simp ))
        exact hq (i + 1, s1) _ ⟨by dsimp only; omega, hs1, hc⟩ (by dsimp only; omega) (by simp [oM, oP])
      | false =>
        rw [hout rfl, runT_append] at hc
        have hni := hmem rfl
        have hd := hrec (by rw [List.nodup_append]; exact ⟨h1, by simp, fun x hx y hy e => by simp only [List.mem_singleton] at hy; subst hy; subst e; exact hni hx⟩) (fun x hx => by
          rcases List.mem_append.1 hx with hx | hx
          · exact h2 x hx
          · simp only [List.mem_singleton] at hx; subst hx; omega) (by simp; omega)
        generalize runT (stepO f) s1 (ordF n m (b ++ [(i : Int)])) = R1 at hd hc hin
        obtain ⟨s2, r⟩ := R1
        dsimp only at hd hc hin
        simp only [oM, oP] at hd
        try simp 
        repeat (refine PreK.intro (by first | omega | (intros; first | omega | (refine ⟨by omega, ?_⟩; simp_all; done) | (simp_all; done) | (simp_all; omega))) fun _ => ?_; (try simp ))
        refine CallG.made ?_
        refine CallX.own (by simpa using hclo) (by simp) (by simp) ?_
        try simp 
        repeat (refine PreK.intro (by first | omega | (intros; first | omega | (refine ⟨by omega, ?_⟩; simp_all; done) | (simp_all; done) | (simp_all; omega))) fun _ => ?_; (try simp ))
        refine CallG.made ?_
        refine CallX.frz 26 (b := ⟨1, b.map iv ++ [iv i], 2, false⟩) (by simp) (by simp) ?_
        refine CallX.boxes [(101, 0, 101), (102, 0, 102)] (by simp) (by simpa [take_map_one] using hd) ?_
        try simp 
        repeat (refine PreK.intro (by first | omega | (intros; first | omega | (refine ⟨by omega, ?_⟩; simp_all; done) | (simp_all; done) | (simp_all; omega))) fun _ => ?_; (try simp ))
        cases r with
        | true =>
          simp only [if_true] at hc
          try simp 
          repeat (refine PreK.intro (by first | omega | (intros; first | omega | (refine ⟨by omega, ?_⟩; simp_all; done) | (simp_all; done) | (simp_all; omega))) fun _ => ?_; (try simp ))
          refine CondK.ff ?_
          try simp 
          repeat (refine PreK.intro (by first | omega | (intros; first | omega | (refine ⟨by omega, ?_⟩; simp_all; done) | (simp_all; done) | (simp_all; omega))) fun _ => ?_; (try simp ))
          exact hq (i + 1, s2) _ ⟨by dsimp only; omega, hin, hc⟩ (by dsimp only; omega) (by simp [oM, oP])
        | false =>
          simp only [Bool.false_eq_true, if_false] at hc
          subst hc
          try simp 
          repeat (refine PreK.intro (by first | omega | (intros; first | omega | (refine ⟨by omega, ?_⟩; simp_all; done) | (simp_all; done) | (simp_all; omega))) fun _ => ?_; (try simp ))
          refine CondK.tt ?_
          try simp 
          repeat (refine PreK.intro (by first | omega | (intros; first | omega | (refine ⟨by omega, ?_⟩; simp_all; done) | (simp_all; done) | (simp_all; omega))) fun _ => ?_; (try simp ))
          apply hr
          try simp 
          repeat (refine PreK.intro (by first | omega | (intros; first | omega | (refine ⟨by omega, ?_⟩; simp_all; done) | (simp_all; done) | (simp_all; omega))) fun _ => ?_; (try simp ))
    · simp at h4
      rw [restF_end h4, runT] at hc
      subst hc
      try simp 
      apply he
      repeat (refine PreK.intro (by first | omega | (intros; first | omega | (refine ⟨by omega, ?_⟩; simp_all; done) | (simp_all; done) | (simp_all; omega))) fun _ => ?_; (try simp ))

/-! ### the best order -/
def bP : List AV := [.pt 101 0 0 0, .pt 102 0 0 0, .pt 103 0 0 0]
def bM (f : List (List Int)) (s : List Int × List Int) : List (Nat × Option Box) := [(101, some ⟨1, [tabV f], 0, true⟩), (102, some ⟨1, [slV s.1], 0, true⟩), (103, some ⟨1, [slV s.2], 0, true⟩)]
def bothI (s : List Int × List Int) : Prop := s.1 ≠ [] → s.2 ≠ []
theorem marksM_ne (o : List Int) (f : List (List Int)) : marksM o f ≠ [] := fun e => by
  have h1 := marks_len o f
  have h2 := marksN_pos o f
  rw [e] at h1
  simp at h1
  omega
theorem bothI_step (f : List (List Int)) (s : List Int × List Int) (o : List Int) (h : bothI s) : bothI (stepB f s o).1 := by
  unfold stepB
  dsimp only
  split
  · exact fun _ => marksM_ne o f
  · exact h
theorem bothI_run (f : List (List Int)) : ∀ (l : List (List Int)) (s : List Int × List Int), bothI s → bothI (runT (stepB f) s l).1
  | [], s, h => h
  | o :: l, s, h => by
    rw [runT]
    split
    · exact bothI_run f l _ (bothI_step f s o h)
    · exact bothI_step f s o h
theorem best1_b (f : List (List Int)) (n : Nat) (hf : FamOK n f) (s : List Int × List Int) (o : List Int) (ho : OrdOK n o) (hs : bothI s) : CallB Tryz.prog 96 (ints o :: bP) (bM f s) (bv (stepB f s o).2) (bM f (stepB f s o).1) := by
  have hmc := marks_c f o (fam_sm hf) (by have := ho.len; have := hf.hi; omega)
  have hne := ord_ne hf.lo ho
  have hmn := marksM_ne o f
  refine CB96 (by simp [bP]) (by simp [bM]) ?_
  unfold stepB
  unfold marksP at hmc
  generalize fitsM o f = F at *
  obtain ⟨s1, s2⟩ := s
  unfold bothI at hs
  dsimp only at hs ⊢
  cases F with
  | true =>
    simp only [if_true, Bool.true_and] at hmc ⊢
    generalize marksM o f = M at *
    by_cases h1 : s1 = []
    · subst h1
      simp only [decide_true, Bool.true_or, if_true]
      simp only [bM, slV_ne hne, slV_ne hmn, slV_nil]
      rcases slV_cases s2 with e2 | e2
      all_goals
        simp only [e2]
        simp [A96, bP]
        try simp 
        repeat' (first
          | (refine CallX.pure (hmc) (by simp) (by simp) ?_; try simp )
          | (refine CallK.intro (hmc) (by simp) (by simp) ?_; try simp )
          | (refine CallG.intro (fun _ => hmc) (by simp) (by simp) ?_; try simp )
          | ((with_reducible refine PreK.intro ?_ ?_); (next => (first | omega | (intros; first | omega | (refine ⟨by omega, ?_⟩; repeat (first | assumption | constructor)) | assumption))); intro _; try simp )
          | fail)
        try simp 
        repeat (refine PreK.intro (by first | omega | (intros; first | omega | (refine ⟨by omega, ?_⟩; simp_all; done) | (simp_all; done) | (simp_all; omega))) fun _ => ?_; (try simp ))
        refine CondK.tt ?_
        try simp 
        try simp 
        repeat (refine PreK.intro (by first | omega | (intros; first | omega | (refine ⟨by omega, ?_⟩; simp_all; done) | (simp_all; done) | (simp_all; omega))) fun _ => ?_; (try simp ))
    · have h2 := hs h1
      simp only [h1, decide_false, Bool.false_or]
      simp only [bM, slV_ne h1, slV_ne h2]
      by_cases h3 : M.length < s2.length
      · simp only [h3, decide_true, if_true, slV_ne hne, slV_ne hmn]
        simp [A96, bP]
        try simp 
        repeat' (first
          | (refine CallX.pure (hmc) (by simp) (by simp) ?_; try simp )
          | (refine CallK.intro (hmc) (by simp) (by simp) ?_; try simp )
          | (refine CallG.intro (fun _ => hmc) (by simp) (by simp) ?_; try simp )
          | ((with_reducible refine PreK.intro ?_ ?_); (next => (first | omega | (intros; first | omega | (refine ⟨by omega, ?_⟩; repeat (first | assumption | constructor)) | assumption))); intro _; try simp )
          | fail)
        try simp [h1, h3]
        repeat (refine PreK.intro (by first | omega | (intros; first | omega | (refine ⟨by omega, ?_⟩; simp_all; done) | (simp_all; done) | (simp_all; omega))) fun _ => ?_; (try simp [h1, h3]))
        refine CondK.tt ?_
        try simp 
        repeat (refine PreK.intro (by first | omega | (intros; first | omega | (refine ⟨by omega, ?_⟩; simp_all; done) | (simp_all; done) | (simp_all; omega))) fun _ => ?_; (try simp ))
      · simp only [h3, decide_false, Bool.false_eq_true, if_false, slV_ne h1, slV_ne h2]
        simp [A96, bP]
        try simp 
        repeat' (first
          | (refine CallX.pure (hmc) (by simp) (by simp) ?_; try simp )
          | (refine CallK.intro (hmc) (by simp) (by simp) ?_; try simp )
          | (refine CallG.intro (fun _ => hmc) (by simp) (by simp) ?_; try simp )
          | ((with_reducible refine PreK.intro ?_ ?_); (next => (first | omega | (intros; first | omega | (refine ⟨by omega, ?_⟩; repeat (first | assumption | constructor)) | assumption))); intro _; try simp )
          | fail)
        try simp [h1, h3]
        repeat (refine PreK.intro (by first | omega | (intros; first | omega | (refine ⟨by omega, ?_⟩; simp_all; done) | (simp_all; done) | (simp_all; omega))) fun _ => ?_; (try simp [h1, h3]))
        refine CondK.ff ?_
        try simp 
        repeat (refine PreK.intro (by first | omega | (intros; first | omega | (refine ⟨by omega, ?_⟩; simp_all; done) | (simp_all; done) | (simp_all; omega))) fun _ => ?_; (try simp ))
  | false =>
    simp only [Bool.false_eq_true, if_false, Bool.false_and] at hmc ⊢
    simp only [bM]
    rcases slV_cases s1 with e1 | e1 <;> rcases slV_cases s2 with e2 | e2
    all_goals
      simp only [e1, e2]
      simp [A96, bP]
      try simp 
      repeat' (first
        | (refine CallX.pure (hmc) (by simp) (by simp) ?_; try simp )
        | (refine CallK.intro (hmc) (by simp) (by simp) ?_; try simp )
        | (refine CallG.intro (fun _ => hmc) (by simp) (by simp) ?_; try simp )
        | ((with_reducible refine PreK.intro ?_ ?_); (next => (first | omega | (intros; first | omega | (refine ⟨by omega, ?_⟩; repeat (first | assumption | constructor)) | assumption))); intro _; try simp )
        | fail)
      try simp 
      repeat (refine PreK.intro (by first | omega | (intros; first | omega | (refine ⟨by omega, ?_⟩; simp_all; done) | (simp_all; done) | (simp_all; omega))) fun _ => ?_; (try simp ))
      refine CondK.ff ?_
      try simp 
      repeat (refine PreK.intro (by first | omega | (intros; first | omega | (refine ⟨by omega, ?_⟩; simp_all; done) | (simp_all; done) | (simp_all; omega))) fun _ => ?_; (try simp ))
theorem orders2_b (f : List (List Int)) (n : Nat) (hf : FamOK n f) : ∀ (m : Nat) (b : List Int) (s : (List Int × List Int)), bothI s → b.Nodup → (∀ x ∈ b, 0 ≤ x ∧ x < n) → b.length + m = n →
    CallB Tryz.prog 77 [iv n, ints b, .fn 96 [] bP] (bM f s) (bv (runT (stepB f) s (ordF n m b)).2) (bM f (runT (stepB f) s (ordF n m b)).1)
  | 0, b, s, hs, h1, h2, h3 => by
    have ho : OrdOK n b := ordOK_of_perm (perm_of_sub h1 (fun x hx => mem_ids.2 (h2 x hx)) (by rw [ids_len]; omega)).symm
    have hd := best1_b f n hf s b ho hs
    have eR : runT (stepB f) s (ordF n 0 b) = stepB f s b := runT_one _ _ _
    rw [eR]
    generalize stepB f s b = R at hd
    obtain ⟨s2, r⟩ := R
    dsimp only at hd ⊢
    have hbl : (b.length : Int) = n := by omega
    refine CB77 (by simp [bP]) (by simp [bM]) ?_
    simp only [bM, bP] at hd
    simp [A77, bP, bM, hbl]
    refine CondK.tt ?_
    try simp 
    repeat (refine PreK.intro (by first | omega | (intros; first | omega | (refine ⟨by omega, ?_⟩; simp_all; done) | (simp_all; done) | (simp_all; omega))) fun _ => ?_; (try simp ))
    refine CallX.boxes [(101, 0, 101), (102, 0, 102), (103, 0, 103)] (by simp) (by simpa using hd) ?_
    repeat (refine PreK.intro (by first | omega | (intros; first | omega | (refine ⟨by omega, ?_⟩; simp_all; done) | (simp_all; done) | (simp_all; omega))) fun _ => ?_; (try simp ))
  | m + 1, b, s, hs, h1, h2, h3 => by
    have hhi := hf.hi
    have hbl : ¬ (b.length : Int) = n := by omega
    refine CB77 (by simp [bP]) (by simp [bM]) ?_
    rw [← restF_zero]
    generalize hR : runT (stepB f) s (restF n m b 0) = R
    simp [A77, bP, bM, hbl]
    refine CondK.ff ?_
    try simp 
    repeat (refine PreK.intro (by first | omega | (intros; first | omega | (refine ⟨by omega, ?_⟩; simp_all; done) | (simp_all; done) | (simp_all; omega))) fun _ => ?_; (try simp ))
    refine LoopK.by (ι := Nat × (List Int × List Int)) (fun x => ⟨[(16, iv x.1), (15, iv n), (0, iv n), (1, ints b), (2, .fn 96 [] bP)], bM f x.2⟩) (fun x => n - x.1) (fun x => x.1 ≤ n ∧ bothI x.2 ∧ runT (stepB f) x.2 (restF n m b x.1) = R) (0, s) ⟨Nat.zero_le _, hs, hR⟩ (by simp [bM, bP]) ?_
    intro ⟨i, s1⟩ Q' ⟨hi, hs1, hc⟩ hq he hr
    dsimp only at hi hs1 hc
    simp only [bM, bP]
    try simp 
    refine CondK.intro (fun h4 => ?_) (fun h4 => ?_)
    · simp at h4
      have hcn := contains_c b i (sbig (by omega))
      rw [any_contains] at hcn
      have hin := bothI_run f (ordF n m (b ++ [(i : Int)])) s1 hs1
      have hrec := orders2_b f n hf m (b ++ [(i : Int)]) s1 hs1
      have hout := restF_out (n := n) (m := m) (b := b) h4
      have hinn := restF_in (n := n) (m := m) (b := b) h4
      have hmem : b.contains (i : Int) = false → (i : Int) ∉ b := fun h hm => by rw [List.contains_iff_mem.2 hm] at h; cases h
      have hclo := clone_o b (by omega)
      generalize b.contains (i : Int) = cb at *
      try simp 
      repeat' (first
        | (refine CallX.pure (hcn) (by simp) (by simp) ?_; try simp )
        | (refine CallK.intro (hcn) (by simp) (by simp) ?_; try simp )
        | (refine CallG.intro (fun _ => hcn) (by simp) (by simp) ?_; try simp )
        | ((with_reducible refine PreK.intro ?_ ?_); (next => (first | omega | (intros; first | omega | (refine ⟨by omega, ?_⟩; repeat (first | assumption | constructor)) | assumption))); intro _; try simp )
        | fail)
      cases cb with
      | true =>
        rw [hinn rfl] at hc
        try simp 
        repeat (refine PreK.intro (by first | omega | (intros; first | omega | (refine ⟨by omega, ?_⟩; simp_all; done) | (simp_all; done) | (simp_all; omega))) fun _ => ?_; (try simp ))
        refine CallG.intro (r := (.seq 1 [] false)) (fun hh => by cases hh) (by simp) (by simp) ?_
        try simp 
        try simp 
        repeat (refine PreK.intro (by first | omega | (intros; first | omega | (refine ⟨by omega, ?_⟩; simp_all; done) | (simp_all; done) | (simp_all; omega))) fun _ => ?_; (try simp ))
        refine CallG.intro (r := (bv true)) (fun hh => by cases hh) (by simp) (by simp) ?_
        try simp 
        try simp 
        repeat (refine PreK.intro (by first | omega | (intros; first | omega | (refine ⟨by omega, ?_⟩; simp_all; done) | (simp_all; done) | (simp_all; omega))) fun _ => ?_; (try simp ))
        refine CondK.ff ?_
        try simp 
        repeat (refine PreK.intro (by first | omega | (intros; first | omega | (refine ⟨by omega, ?_⟩; simp_all; done) | (simp_all; done) | (simp_all; omega))) fun _ => ?_; (try simp ))
        exact hq (i + 1, s1) _ ⟨by dsimp only; omega, hs1, hc⟩ (by dsimp only; omega) (by simp [bM, bP])
      | false =>
        rw [hout rfl, runT_append] at hc
        have hni := hmem rfl
        have hd := hrec (by rw [List.nodup_append]; exact ⟨h1, by simp, fun x hx y hy e => by simp only [List.mem_singleton] at hy; subst hy; subst e; exact hni hx⟩) (fun x hx => by
          rcases List.mem_append.1 hx with hx | hx
          · exact h2 x hx
          · simp only [List.mem_singleton] at hx; subst hx; omega) (by simp; omega)
        generalize runT (stepB f) s1 (ordF n m (b ++ [(i : Int)])) = R1 at hd hc hin
        obtain ⟨s2, r⟩ := R1
        dsimp only at hd hc hin
        simp only [bM, bP] at hd
        try simp 
        repeat (refine PreK.intro (by first | omega | (intros; first | omega | (refine ⟨by omega, ?_⟩; simp_all; done) | (simp_all; done) | (simp_all; omega))) fun _ => ?_; (try simp ))
        refine CallG.made ?_
        refine CallX.own (by simpa using hclo) (by simp) (by simp) ?_
        try simp 
        repeat (refine PreK.intro (by first | omega | (intros; first | omega | (refine ⟨by omega, ?_⟩; simp_all; done) | (simp_all; done) | (simp_all; omega))) fun _ => ?_; (try simp ))
        refine CallG.made ?_
        refine CallX.frz 26 (b := ⟨1, b.map iv ++ [iv i], 2, false⟩) (by simp) (by simp) ?_
        refine CallX.boxes [(101, 0, 101), (102, 0, 102), (103, 0, 103)] (by simp) (by simpa [take_map_one] using hd) ?_
        try simp 
        repeat (refine PreK.intro (by first | omega | (intros; first | omega | (refine ⟨by omega, ?_⟩; simp_all; done) | (simp_all; done) | (simp_all; omega))) fun _ => ?_; (try simp ))
        cases r with
        | true =>
          simp only [if_true] at hc
          try simp 
          repeat (refine PreK.intro (by first | omega | (intros; first | omega | (refine ⟨by omega, ?_⟩; simp_all; done) | (simp_all; done) | (simp_all; omega))) fun _ => ?_; (try simp ))
          refine CondK.ff ?_
          try simp 
          repeat (refine PreK.intro (by first | omega | (intros; first | omega | (refine ⟨by omega, ?_⟩; simp_all; done) | (simp_all; done) | (simp_all; omega))) fun _ => ?_; (try simp ))
          exact hq (i + 1, s2) _ ⟨by dsimp only; omega, hin, hc⟩ (by dsimp only; omega) (by simp [bM, bP])
        | false =>
          simp only [Bool.false_eq_true, if_false] at hc
          subst hc
          try simp 
          repeat (refine PreK.intro (by first | omega | (intros; first | omega | (refine ⟨by omega, ?_⟩; simp_all; done) | (simp_all; done) | (simp_all; omega))) fun _ => ?_; (try simp ))
          refine CondK.tt ?_
          try simp 
          repeat (refine PreK.intro (by first | omega | (intros; first | omega | (refine ⟨by omega, ?_⟩; simp_all; done) | (simp_all; done) | (simp_all; omega))) fun _ => ?_; (try simp ))
          apply hr
          try simp 
          repeat (refine PreK.intro (by first | omega | (intros; first | omega | (refine ⟨by omega, ?_⟩; simp_all; done) | (simp_all; done) | (simp_all; omega))) fun _ => ?_; (try simp ))
    · simp at h4
      rw [restF_end h4, runT] at hc
      subst hc
      try simp 
      apply he
      repeat (refine PreK.intro (by first | omega | (intros; first | omega | (refine ⟨by omega, ?_⟩; simp_all; done) | (simp_all; done) | (simp_all; omega))) fun _ => ?_; (try simp ))
end Go.Proofs.YtgfgkfkplidncaaGreat
end

section
/- Contracts: for what a name stands; all names and classes of a table. -/
namespace Go.Proofs.YtgfgkfkplidncaaGreat
open Go.Abs Go
set_option maxRecDepth 20000
set_option maxHeartbeats 2000000
attribute [local irreducible] PreK CondK CallK CallG CallX LoopK
attribute [local simp] avsEq avEq akind teq vkind vEq

@[simp] def namesV (l : List (Int × Int)) : AV := .seq 2 (l.map pairV) false
instance : Inhabited (Int × Int) := ⟨(0, 0)⟩
@[simp] theorem nth_pair (l : List (Int × Int)) (k : Nat) (h : k < l.length) : nth (l.map pairV) k = pairV (el l k) := nth_map pairV l k h
theorem clone_k (k : Bool) (l : List Int) (hl : l.length ≤ 1000) : CallO Tryz.prog 63 [.seq 1 (l.map iv) k] 1 (l.map iv) := by
  refine CO63 (by simp) ?_
  simp [A63, nilOK, nilArg, nilOf]
  intro b hb
  refine CondK.intro (fun h => ?_) (fun h => ?_)
  · simp at h
    have h2 := hb h
    simp at h2
    subst h2
    simp
  · simp
    refine PreK.intro (by omega) fun _ => ?_
    simp
theorem stand_c (t : Tab) (h : TabOK t) (s r : Int) : CallP Tryz.prog 48 [lineV t, pairV (s, r)] (.tup [ints (standE t s r).1, bv (standE t s r).2]) := by
  refine C48 (by simp) ?_
  have hl := h.len
  have hrl := rowsF_len t 0
  have hlast := rowsF_last h
  have hix := index_c t.flatten s (sbig (by omega))
  unfold lineV
  have hp1 : 1 ≤ t.flatten.length := Nat.le_trans (endN_pos h 0) (endN_le t 0)
  by_cases hm : s ∈ t.flatten
  · obtain ⟨a, b, hab, ha⟩ := split_at hm
    have hidx : idxF (fun x => decide (s = x)) 0 t.flatten = (a.length : Int) := by rw [hab, idxF_at a b 0 ha]; simp
    rw [hidx] at hix
    have hal : a.length < t.flatten.length := by rw [hab]; simp
    have hrow := rows_at hab ha
    have hrb := row_lt t hm
    by_cases h1 : r < rowI s 0 t
    · have e1 : standE t s r = ([], false) := by
        have : isName t s r = false := by
          cases hb : isName t s r with
          | false => rfl
          | true => have := isName_row.1 hb; omega
        simp [standE, this]
      rw [e1]
      generalize t.flatten = L at *
      generalize rowsF 0 t = R at *
      have e2 : ((L.length : Int) - 1).toNat = L.length - 1 := by omega
      have e3 : L.length - 1 < L.length := by omega
      simp [A48]
      try simp 
      repeat' (first
        | (refine CallX.pure (hix) (by simp) (by simp) ?_; try simp )
        | (refine CallK.intro (hix) (by simp) (by simp) ?_; try simp )
        | (refine CallG.intro (fun _ => hix) (by simp) (by simp) ?_; try simp )
        | ((with_reducible refine PreK.intro ?_ ?_); (next => (first | omega | (intros; first | omega | (refine ⟨by omega, ?_⟩; repeat (first | assumption | constructor)) | assumption))); intro _; try simp )
        | fail)
      try simp [hal, hrl, hrow, h1, e2, e3]
      repeat (refine PreK.intro (by first | omega | (intros; first | omega | (refine ⟨by omega, ?_⟩; simp_all; done) | (simp_all; done) | (simp_all; omega))) fun _ => ?_; (try simp [hal, hrl, hrow, h1, e2, e3]))
      refine CondK.tt ?_
      try simp 
      repeat (refine PreK.intro (by first | omega | (intros; first | omega | (refine ⟨by omega, ?_⟩; simp_all; done) | (simp_all; done) | (simp_all; omega))) fun _ => ?_; (try simp ))
    · by_cases h2 : (t.length : Int) - 1 < r
      · have e1 : standE t s r = ([], false) := by
          have : isName t s r = false := by
            cases hb : isName t s r with
            | false => rfl
            | true => have := isName_row.1 hb; omega
          simp [standE, this]
        rw [e1]
        generalize t.flatten = L at *
        generalize rowsF 0 t = R at *
        have e2 : ((L.length : Int) - 1).toNat = L.length - 1 := by omega
        have e3 : L.length - 1 < L.length := by omega
        rw [hrl] at hlast
        simp [A48]
        try simp 
        repeat' (first
          | (refine CallX.pure (hix) (by simp) (by simp) ?_; try simp )
          | (refine CallK.intro (hix) (by simp) (by simp) ?_; try simp )
          | (refine CallG.intro (fun _ => hix) (by simp) (by simp) ?_; try simp )
          | ((with_reducible refine PreK.intro ?_ ?_); (next => (first | omega | (intros; first | omega | (refine ⟨by omega, ?_⟩; repeat (first | assumption | constructor)) | assumption))); intro _; try simp )
          | fail)
        try simp [hal, hrl, hrow, h1, h2, hlast, e2, e3]
        repeat (refine PreK.intro (by first | omega | (intros; first | omega | (refine ⟨by omega, ?_⟩; simp_all; done) | (simp_all; done) | (simp_all; omega))) fun _ => ?_; (try simp [hal, hrl, hrow, h1, h2, hlast, e2, e3]))
        refine CondK.tt ?_
        try simp 
        repeat (refine PreK.intro (by first | omega | (intros; first | omega | (refine ⟨by omega, ?_⟩; simp_all; done) | (simp_all; done) | (simp_all; omega))) fun _ => ?_; (try simp ))
      · have hnm : isName t s r = true := isName_row.2 ⟨hm, by omega, by omega⟩
        obtain ⟨hr0, hrt, hsp⟩ := name_of hnm
        obtain ⟨q, rfl⟩ : ∃ q : Nat, r = (q : Int) := ⟨r.toNat, by omega⟩
        simp only [Int.toNat_natCast] at hrt hsp
        have e1 : standE t s (q : Int) = (standM t s q, true) := by simp [standE, hnm]
        rw [e1]
        have hen := endN_le t q
        have hae : a.length < endN t q := by
          have := (rowsF_le t 0 a.length q (by omega)).1 (by rw [hrow]; omega)
          exact this
        have hle : ∀ e, e < t.flatten.length → (el (rowsF 0 t) e ≤ (q : Int) ↔ e < endN t q) := fun e he => by
          have := rowsF_le t 0 e q (by omega)
          rw [show ((0 + q : Nat) : Int) = (q : Int) by omega] at this
          exact this
        have hseg : (t.flatten.take (endN t q)).drop a.length = segM t s q := by
          rw [pre_take]
          unfold segM
          obtain ⟨a', b', h3, h4, _, h6, h7⟩ := name_split h hsp
          have haa : a = a' := by
            have h8 := hab.symm.trans h3
            have : a.length = a'.length := el_inj h.nd hal (by rw [h3]; simp) (by
              rw [show el t.flatten a.length = s by rw [hab, el_append_right (Nat.le_refl _)]; simp [el], show el t.flatten a'.length = s by rw [h3, el_append_right (Nat.le_refl _)]; simp [el]])
            exact (List.append_inj h8 this).1
          rw [← haa] at h6
          rw [h6, dropWhile_at _ _ ha, List.drop_left' rfl]
        unfold standM
        have hs1 := sortI_L (segM t s q)
        have hSG := sortI_len (segM t s q)
        generalize sortI (segM t s q) = S at hs1 hSG ⊢
        generalize segM t s q = G at *
        generalize t.flatten = L at *
        generalize rowsF 0 t = R at *
        generalize hE : endN t q = E at *
        have e2 : ((L.length : Int) - 1).toNat = L.length - 1 := by omega
        have e3 : L.length - 1 < L.length := by omega
        rw [hrl] at hlast
        have e4 : ¬ (q : Int) < rowI s 0 t := by omega
        have e5 : ¬ (t.length : Int) - 1 < (q : Int) := by omega
        simp [A48]
        try simp 
        repeat' (first
          | (refine CallX.pure (hix) (by simp) (by simp) ?_; try simp )
          | (refine CallK.intro (hix) (by simp) (by simp) ?_; try simp )
          | (refine CallG.intro (fun _ => hix) (by simp) (by simp) ?_; try simp )
          | ((with_reducible refine PreK.intro ?_ ?_); (next => (first | omega | (intros; first | omega | (refine ⟨by omega, ?_⟩; repeat (first | assumption | constructor)) | assumption))); intro _; try simp )
          | fail)
        try simp [hal, hrl, hrow, e4, e5, hlast, e2, e3]
        repeat (refine PreK.intro (by first | omega | (intros; first | omega | (refine ⟨by omega, ?_⟩; simp_all; done) | (simp_all; done) | (simp_all; omega))) fun _ => ?_; (try simp [hal, hrl, hrow, e4, e5, hlast, e2, e3]))
        refine CondK.ff ?_
        try simp 
        repeat (refine PreK.intro (by first | omega | (intros; first | omega | (refine ⟨by omega, ?_⟩; simp_all; done) | (simp_all; done) | (simp_all; omega))) fun _ => ?_; (try simp ))
        refine LoopK.by (ι := Nat) (fun e => ⟨[(7, iv e), (6, iv a.length), (2, .pt 2 1 0 0), (3, .pt 3 1 0 0)], [(2, some ⟨2, [.agg [ints L, ints R]], 1, true⟩), (3, some ⟨2, [.agg [iv s, iv q]], 1, true⟩)]⟩) (fun e => E - e) (fun e => a.length ≤ e ∧ e ≤ E) a.length ⟨Nat.le_refl _, by omega⟩ (by simp) ?_
        intro e Q' ⟨h3, h4⟩ hq he hr
        by_cases h5 : e < L.length
        · have h6 := hle e h5
          by_cases h7 : e < E
          · have h8 := h6.2 h7
            try simp [h5, hrl, h8]
            repeat (refine PreK.intro (by first | omega | (intros; first | omega | (refine ⟨by omega, ?_⟩; simp_all; done) | (simp_all; done) | (simp_all; omega))) fun _ => ?_; (try simp [h5, hrl, h8]))
            refine CondK.tt ?_
            try simp 
            repeat (refine PreK.intro (by first | omega | (intros; first | omega | (refine ⟨by omega, ?_⟩; simp_all; done) | (simp_all; done) | (simp_all; omega))) fun _ => ?_; (try simp ))
            exact hq (e + 1) _ ⟨by omega, by omega⟩ (by omega) (by simp)
          · have h8 : ¬ el R e ≤ (q : Int) := fun h9 => h7 (h6.1 h9)
            have h9 : e = E := by omega
            subst h9
            try simp [h5, hrl, h8]
            repeat (refine PreK.intro (by first | omega | (intros; first | omega | (refine ⟨by omega, ?_⟩; simp_all; done) | (simp_all; done) | (simp_all; omega))) fun _ => ?_; (try simp [h5, hrl, h8]))
            refine CondK.ff ?_
            try simp 
            repeat (refine PreK.intro (by first | omega | (intros; first | omega | (refine ⟨by omega, ?_⟩; simp_all; done) | (simp_all; done) | (simp_all; omega))) fun _ => ?_; (try simp ))
            apply he
            have hgl : G.length = e - a.length := by rw [← hseg]; simp; omega
            repeat (refine PreK.intro (by first | omega | (intros; first | omega | (refine ⟨by omega, ?_⟩; simp_all; done) | (simp_all; done) | (simp_all; omega))) fun _ => ?_; (try simp [hen, hae]))
            have hgd : List.drop a.length (List.take e (List.map iv L)) = List.map iv G := by rw [← hseg]; simp [List.map_drop, List.map_take]
            have hgm : min e L.length - a.length = G.length := by omega
            refine CallX.own (by simpa [hgd] using clone_k false G (by omega)) (by simp) (by simp) ?_
            try simp [hgm]
            refine CallX.lend [] (id := 63) (ver := 1) (n := G.length) (b := ⟨1, G.map iv, 1, false⟩) [] (.val (.tup [])) _ (by simp [hgm]) (by simp) (by simp) (by simp) (by simp) (by simp) (by simp) (by simpa using hs1) ?_
            repeat (refine PreK.intro (by first | omega | (intros; first | omega | (refine ⟨by omega, ?_⟩; simp_all; done) | (simp_all; done) | (simp_all; omega))) fun _ => ?_; (try simp [hgm, hSG]))
            simp [← hSG]
        · have h9 : e = E := by omega
          subst h9
          have hgl : G.length = e - a.length := by rw [← hseg]; simp; omega
          have hnj : nth (R.map iv) e = .junk := nth_ge iv R (by omega)
          try simp [h5, hrl, hnj]
          repeat (refine PreK.intro (by first | omega | (intros; first | omega | (refine ⟨by omega, ?_⟩; simp_all; done) | (simp_all; done) | (simp_all; omega))) fun _ => ?_; (try simp [h5, hrl, hnj]))
          refine CondK.ff ?_
          try simp 
          repeat (refine PreK.intro (by first | omega | (intros; first | omega | (refine ⟨by omega, ?_⟩; simp_all; done) | (simp_all; done) | (simp_all; omega))) fun _ => ?_; (try simp ))
          apply he
          repeat (refine PreK.intro (by first | omega | (intros; first | omega | (refine ⟨by omega, ?_⟩; simp_all; done) | (simp_all; done) | (simp_all; omega))) fun _ => ?_; (try simp [hen, hae]))
          have hgd : List.drop a.length (List.take e (List.map iv L)) = List.map iv G := by rw [← hseg]; simp [List.map_drop, List.map_take]
          have hgm : min e L.length - a.length = G.length := by omega
          refine CallX.own (by simpa [hgd] using clone_k false G (by omega)) (by simp) (by simp) ?_
          try simp [hgm]
          refine CallX.lend [] (id := 63) (ver := 1) (n := G.length) (b := ⟨1, G.map iv, 1, false⟩) [] (.val (.tup [])) _ (by simp [hgm]) (by simp) (by simp) (by simp) (by simp) (by simp) (by simp) (by simpa using hs1) ?_
          repeat (refine PreK.intro (by first | omega | (intros; first | omega | (refine ⟨by omega, ?_⟩; simp_all; done) | (simp_all; done) | (simp_all; omega))) fun _ => ?_; (try simp [hgm, hSG]))
          simp [← hSG]
  · have hidx := idxF_none t.flatten 0 hm
    rw [hidx] at hix
    have e1 : standE t s r = ([], false) := by
      have : isName t s r = false := by
        cases hb : isName t s r with
        | false => rfl
        | true => exact absurd (isName_row.1 hb).1 hm
      simp [standE, this]
    rw [e1]
    generalize t.flatten = L at *
    generalize rowsF 0 t = R at *
    have e2 : ((L.length : Int) - 1).toNat = L.length - 1 := by omega
    have e3 : L.length - 1 < L.length := by omega
    have e0 : 0 < L.length := by omega
    simp [A48]
    try simp 
    repeat' (first
      | (refine CallX.pure (hix) (by simp) (by simp) ?_; try simp )
      | (refine CallK.intro (hix) (by simp) (by simp) ?_; try simp )
      | (refine CallG.intro (fun _ => hix) (by simp) (by simp) ?_; try simp )
      | ((with_reducible refine PreK.intro ?_ ?_); (next => (first | omega | (intros; first | omega | (refine ⟨by omega, ?_⟩; repeat (first | assumption | constructor)) | assumption))); intro _; try simp )
      | fail)
    try simp [hrl, e0, e2, e3]
    repeat (refine PreK.intro (by first | omega | (intros; first | omega | (refine ⟨by omega, ?_⟩; simp_all; done) | (simp_all; done) | (simp_all; omega))) fun _ => ?_; (try simp [hrl, e0, e2, e3]))
    refine CondK.tt ?_
    try simp 
    repeat (refine PreK.intro (by first | omega | (intros; first | omega | (refine ⟨by omega, ?_⟩; simp_all; done) | (simp_all; done) | (simp_all; omega))) fun _ => ?_; (try simp ))
theorem names_o (t : Tab) (h : TabOK t) : CallO Tryz.prog 46 [tabV t] 2 ((namesM t).map pairV) := by
  refine CO46 (by simp) ?_
  have hlo := lineOf_c t h
  have hl := h.len
  have hn := h.num
  have hrl := rowsF_len t 0
  have hge := fun e he => rowsF_ge t 0 e he
  have hnn := names_num h
  have hsn := sort_names h
  have hpl := (names_perm h).length_eq
  have hs1 := sortN_L (allM t)
  rw [hsn] at hs1
  unfold lineV at hlo
  generalize hA : allM t = A at hs1 hpl
  unfold allM at hA
  generalize namesM t = N at *
  generalize t.flatten = L at *
  generalize rowsF 0 t = R at *
  simp [A46]
  try simp 
  repeat' (first
    | (refine CallX.pure (hlo) (by simp) (by simp) ?_; try simp )
    | (refine CallK.intro (hlo) (by simp) (by simp) ?_; try simp )
    | (refine CallG.intro (fun _ => hlo) (by simp) (by simp) ?_; try simp )
    | ((with_reducible refine PreK.intro ?_ ?_); (next => (first | omega | (intros; first | omega | (refine ⟨by omega, ?_⟩; repeat (first | assumption | constructor)) | assumption))); intro _; try simp )
    | fail)
  repeat (refine PreK.intro (by first | omega | (intros; first | omega | (refine ⟨by omega, ?_⟩; simp_all; done) | (simp_all; done) | (simp_all; omega))) fun _ => ?_; (try simp ))
  refine LoopK.by (ι := Nat × Nat × List (Int × Int)) (fun x => ⟨[(16, iv x.1), (15, iv L.length), (14, ints L), (4, .sl 4 x.2.1 0 x.2.2.length), (3, .pt 3 1 0 0), (0, tabV t)], [(4, some ⟨2, x.2.2.map pairV, x.2.1, false⟩), (3, some ⟨2, [.agg [ints L, ints R]], 1, true⟩)]⟩) (fun x => L.length - x.1)
    (fun x => x.1 ≤ L.length ∧ x.2.2 ++ allF t.length (L.drop x.1) (R.drop x.1) = A) (0, 1, []) ⟨Nat.zero_le _, by simpa using hA⟩ (by simp) ?_
  intro ⟨i, ver, acc⟩ Q' ⟨hi, hc⟩ hq he hr
  dsimp only at hi hc
  try simp 
  refine CondK.intro (fun h1 => ?_) (fun h1 => ?_)
  · simp at h1
    have h1' : i < R.length := by omega
    obtain ⟨g1, g2⟩ := hge i h1'
    obtain ⟨k, hk⟩ : ∃ k : Nat, el R i = (k : Int) := ⟨(el R i).toNat, by omega⟩
    rw [drop_cons L i h1, drop_cons R i h1', allF, hk, Int.toNat_natCast] at hc
    try simp [h1, h1', hk]
    repeat (refine PreK.intro (by first | omega | (intros; first | omega | (refine ⟨by omega, ?_⟩; simp_all; done) | (simp_all; done) | (simp_all; omega))) fun _ => ?_; (try simp [h1, h1', hk]))
    refine LoopK.by (ι := Nat × Nat × List (Int × Int)) (fun x => ⟨[(7, iv x.1), (6, iv (el L i)), (16, iv i), (15, iv L.length), (14, ints L), (4, .sl 4 x.2.1 0 x.2.2.length), (3, .pt 3 1 0 0), (0, tabV t)], [(4, some ⟨2, x.2.2.map pairV, x.2.1, false⟩), (3, some ⟨2, [.agg [ints L, ints R]], 1, true⟩)]⟩) (fun x => t.length - x.1)
      (fun x => x.1 ≤ t.length ∧ x.2.2 ++ (rangeP (el L i) x.1 t.length ++ allF t.length (L.drop (i + 1)) (R.drop (i + 1))) = A) (k, ver, acc) ⟨by dsimp only; omega, hc⟩ (by simp) ?_
    intro ⟨k, v2, ac2⟩ Q2 ⟨hk2, hc2⟩ hq2 he2 hr2
    dsimp only at hk2 hc2
    have hlen := congrArg List.length hc2
    simp only [List.length_append] at hlen
    try simp 
    refine CondK.intro (fun h2 => ?_) (fun h2 => ?_)
    · simp at h2
      have e1 : rangeP (el L i) k t.length = (el L i, (k : Int)) :: rangeP (el L i) (k + 1) t.length := by
        unfold rangeP
        rw [show t.length - k = (t.length - (k + 1)) + 1 by omega, List.range'_succ]
        rfl
      rw [e1, List.cons_append] at hc2
      repeat (refine PreK.intro (by first | omega | (intros; first | omega | (refine ⟨by omega, ?_⟩; simp_all; done) | (simp_all; done) | (simp_all; omega))) fun _ => ?_; (try simp ))
      exact hq2 (k + 1, v2 + 1, ac2 ++ [(el L i, (k : Int))]) _ ⟨by dsimp only; omega, by simpa using hc2⟩ (by dsimp only; omega) (by simp)
    · simp at h2
      have e1 : rangeP (el L i) k t.length = [] := by
        unfold rangeP
        rw [show t.length - k = 0 by omega]
        rfl
      rw [e1, List.nil_append] at hc2
      try simp 
      apply he2
      repeat (refine PreK.intro (by first | omega | (intros; first | omega | (refine ⟨by omega, ?_⟩; simp_all; done) | (simp_all; done) | (simp_all; omega))) fun _ => ?_; (try simp ))
      exact hq (i + 1, v2, ac2) _ ⟨by dsimp only; omega, hc2⟩ (by dsimp only; omega) (by simp)
  · simp at h1
    rw [List.drop_eq_nil_of_le (by omega)] at hc
    simp only [allF, List.append_nil] at hc
    subst hc
    try simp 
    apply he
    try simp 
    refine CallX.lend [] (id := 4) (ver := ver) (n := acc.length) (b := ⟨2, acc.map pairV, ver, false⟩) [.fn 88 [] []] (.val (.tup [])) _ (by simp) (by simp) (by simp) (by simp) (by simp) (by simp) (by simp) (by simpa using hs1) ?_
    try simp 
    clear hq he hr
    refine LoopK.by (ι := Nat × Nat × List (Int × Int)) (fun x => ⟨[(43, iv x.1), (42, iv acc.length), (41, .sl 4 ver 0 acc.length), (8, .sl 8 x.2.1 0 x.2.2.length)], [(8, some ⟨2, x.2.2.map pairV, x.2.1, false⟩), (4, some ⟨2, N.map pairV, ver, false⟩)]⟩) (fun x => N.length - x.1)
      (fun x => x.1 ≤ N.length ∧ x.2.2 ++ N.drop x.1 = N) (0, 1, []) ⟨Nat.zero_le _, by simp⟩ (by simp) ?_
    intro ⟨j, v2, ac2⟩ Q2 ⟨hj, hc2⟩ hq2 he2 hr2
    dsimp only at hj hc2
    have hlen := congrArg List.length hc2
    simp only [List.length_append] at hlen
    try simp 
    refine CondK.intro (fun h2 => ?_) (fun h2 => ?_)
    · simp at h2
      have h2' : j < N.length := by omega
      rw [drop_cons N j h2'] at hc2
      repeat (refine PreK.intro (by first | omega | (intros; first | omega | (refine ⟨by omega, ?_⟩; simp_all; done) | (simp_all; done) | (simp_all; omega))) fun _ => ?_; (try simp [h2', h2]))
      exact hq2 (j + 1, v2 + 1, ac2 ++ [el N j]) _ ⟨by dsimp only; omega, by simpa using hc2⟩ (by dsimp only; omega) (by simp)
    · simp at h2
      rw [List.drop_eq_nil_of_le (by omega), List.append_nil] at hc2
      subst hc2
      try simp 
      apply he2
      repeat (refine PreK.intro (by first | omega | (intros; first | omega | (refine ⟨by omega, ?_⟩; simp_all; done) | (simp_all; done) | (simp_all; omega))) fun _ => ?_; (try simp ))
theorem names_c (t : Tab) (h : TabOK t) : CallP Tryz.prog 46 [tabV t] (namesV (namesM t)) := (names_o t h).toP
theorem classes_c (t : Tab) (h : TabOK t) : CallP Tryz.prog 56 [tabV t] (tabV (classesM t)) := by
  refine C56 (by simp) ?_
  have hlo := lineOf_c t h
  have hnc := names_c t h
  have hnn := names_num h
  have hst := fun s r => stand_c t h s r
  have hin : ∀ x ∈ namesM t, standE t x.1 x.2 = (standM t x.1 x.2.toNat, true) ∧ (standM t x.1 x.2.toNat).length ≤ 6 := by
    intro x hx
    have h1 := (mem_namesM h).1 hx
    refine ⟨by simp [standE, h1], ?_⟩
    obtain ⟨_, h2, h3⟩ := name_of h1
    exact six_len ((sortI_perm _).nodup_iff.2 (seg_nd h _ _)) fun y hy => seg_val h (mem_sortI.1 hy)
  unfold classesM
  generalize hS : setsM t = S
  have hSl : S.length ≤ 36 := by rw [← hS, setsM, List.length_map]; exact hnn
  have hSw : ∀ w ∈ S, w.length ≤ 6 := by
    intro w hw
    rw [← hS, setsM] at hw
    obtain ⟨x, hx, rfl⟩ := List.mem_map.1 hw
    exact (hin x hx).2
  unfold setsM at hS
  have hs1 := sortW_L S
  have hs2 := compact_L (sortW S) (by rw [sortW_len]; omega) (fun w hw => by have := hSw w ((sortW_perm S).mem_iff.1 hw); omega)
  have hsl := sortW_len S
  unfold uniq
  have hnum : (compW (sortW S)).length ≤ S.length := by
    rw [← hsl]
    cases sortW S with
    | nil => simp [compW]
    | cons x m => simp only [compW, List.length_cons]; have := compF_num x m; omega
  generalize sortW S = so at hs1 hs2 hsl hnum ⊢
  generalize compW so = U at hs2 hnum ⊢
  unfold lineV at hlo hst
  generalize namesM t = N at *
  generalize t.flatten = L at *
  generalize rowsF 0 t = R at *
  simp [A56]
  try simp 
  repeat' (first
    | (refine CallX.pure (hlo) (by simp) (by simp) ?_; try simp )
    | (refine CallK.intro (hlo) (by simp) (by simp) ?_; try simp )
    | (refine CallG.intro (fun _ => hlo) (by simp) (by simp) ?_; try simp )
    | ((with_reducible refine PreK.intro ?_ ?_); (next => (first | omega | (intros; first | omega | (refine ⟨by omega, ?_⟩; repeat (first | assumption | constructor)) | assumption))); intro _; try simp )
    | fail)
  repeat (refine PreK.intro (by first | omega | (intros; first | omega | (refine ⟨by omega, ?_⟩; simp_all; done) | (simp_all; done) | (simp_all; omega))) fun _ => ?_; (try simp ))
  try simp 
  repeat' (first
    | (refine CallX.pure (hnc) (by simp) (by simp) ?_; try simp )
    | (refine CallK.intro (hnc) (by simp) (by simp) ?_; try simp )
    | (refine CallG.intro (fun _ => hnc) (by simp) (by simp) ?_; try simp )
    | ((with_reducible refine PreK.intro ?_ ?_); (next => (first | omega | (intros; first | omega | (refine ⟨by omega, ?_⟩; repeat (first | assumption | constructor)) | assumption))); intro _; try simp )
    | fail)
  refine LoopK.by (ι := Nat × Nat × List (List Int)) (fun x => ⟨[(14, iv x.1), (13, iv N.length), (12, namesV N), (4, .sl 4 x.2.1 0 x.2.2.length), (3, .pt 3 1 0 0)], [(4, some ⟨1, x.2.2.map ints, x.2.1, false⟩), (3, some ⟨2, [.agg [ints L, ints R]], 1, true⟩)]⟩) (fun x => N.length - x.1)
    (fun x => x.1 ≤ N.length ∧ x.2.2 ++ (N.drop x.1).map (fun n => standM t n.1 n.2.toNat) = S) (0, 1, []) ⟨Nat.zero_le _, by simpa using hS⟩ (by simp) ?_
  intro ⟨i, ver, acc⟩ Q' ⟨hi, hc⟩ hq he hr
  dsimp only at hi hc
  have hlen := congrArg List.length hc
  simp only [List.length_append] at hlen
  try simp 
  refine CondK.intro (fun h1 => ?_) (fun h1 => ?_)
  · simp at h1
    obtain ⟨e1, e2⟩ := hin _ (el_mem_of N i h1)
    have hst1 := hst (el N i).1 (el N i).2
    rw [e1] at hst1
    rw [drop_cons N i h1, List.map_cons] at hc
    generalize standM t (el N i).1 (el N i).2.toNat = st at *
    try simp [h1]
    repeat (refine PreK.intro (by first | omega | (intros; first | omega | (refine ⟨by omega, ?_⟩; simp_all; done) | (simp_all; done) | (simp_all; omega))) fun _ => ?_; (try simp [h1]))
    try simp 
    repeat' (first
      | (refine CallX.pure (hst1) (by simp) (by simp) ?_; try simp )
      | (refine CallK.intro (hst1) (by simp) (by simp) ?_; try simp )
      | (refine CallG.intro (fun _ => hst1) (by simp) (by simp) ?_; try simp )
      | ((with_reducible refine PreK.intro ?_ ?_); (next => (first | omega | (intros; first | omega | (refine ⟨by omega, ?_⟩; repeat (first | assumption | constructor)) | assumption))); intro _; try simp )
      | fail)
    repeat (refine PreK.intro (by first | omega | (intros; first | omega | (refine ⟨by omega, ?_⟩; simp_all; done) | (simp_all; done) | (simp_all; omega))) fun _ => ?_; (try simp ))
    exact hq (i + 1, ver + 1, acc ++ [st]) _ ⟨by dsimp only; omega, by simpa using hc⟩ (by dsimp only; omega) (by simp)
  · simp at h1
    rw [List.drop_eq_nil_of_le (by omega)] at hc
    simp only [List.map_nil, List.append_nil] at hc
    subst hc
    try simp 
    apply he
    try simp 
    refine CallX.lend [] (id := 4) (ver := ver) (n := acc.length) (b := ⟨1, acc.map ints, ver, false⟩) [.fn 93 [] []] (.val (.tup [])) _ (by simp) (by simp) (by simp) (by simp) (by simp) (by simp) (by simp) (by simpa using hs1) ?_
    try simp 
    refine CallX.lend [] (id := 4) (ver := ver) (n := acc.length) (b := ⟨1, so.map ints, ver, false⟩) [.fn 49 [] []] (.part U.length) _ (by simp) (by simp) (by simp) (by simp) (by simp [hsl]) (by simp) (by simp) (by simpa using hs2) ?_
    repeat (refine PreK.intro (by first | omega | (intros; first | omega | (refine ⟨by omega, ?_⟩; simp_all; done) | (simp_all; done) | (simp_all; omega))) fun _ => ?_; (try simp ))
end Go.Proofs.YtgfgkfkplidncaaGreat
end

section
/- Contracts: the document's names and classes. -/
namespace Go.Proofs.YtgfgkfkplidncaaGreat
open Go.Abs Go
set_option maxRecDepth 20000
set_option maxHeartbeats 2000000
attribute [local irreducible] PreK CondK CallK CallG CallX LoopK
attribute [local simp] avsEq avEq akind teq vkind vEq

end Go.Proofs.YtgfgkfkplidncaaGreat
end

section
/- Contracts: the document's families and orders; what is too long. -/
namespace Go.Proofs.YtgfgkfkplidncaaGreat
open Go.Abs Go
set_option maxRecDepth 20000
set_option maxHeartbeats 2000000
attribute [local irreducible] PreK CondK CallK CallG CallX LoopK
attribute [local simp] avsEq avEq akind teq vkind vEq

def ordErr (n : Int) (f : List (List Int)) (o : List Int) : Int := if famErr n f ≠ 0 then famErr n f else if isOrdB o n then 0 else 1
theorem ordErr_zero {n : Int} {f : List (List Int)} {o : List Int} (h : ordErr n f o = 0) : ∃ k : Nat, n = k ∧ FamOK k f ∧ OrdOK k o := by
  unfold ordErr at h
  split at h
  · rename_i h1; exact absurd h h1
  · rename_i h1
    obtain ⟨k, rfl, hf⟩ := famErr_zero (by simpa using h1)
    split at h
    · rename_i h2; exact ⟨k, rfl, hf, isOrd_iff.1 h2⟩
    · cases h
theorem ordered_c (n : Int) (f : List (List Int)) (o : List Int) (h : Sm f) (ho : o.length ≤ 100) : CallP Tryz.prog 70 [iv n, tabV f, ints o] (iv (ordErr n f o)) := by
  refine C70 (by simp) ?_
  have hv := ValidateFamily_c n f h
  have hi := isOrder_c o n (by omega)
  unfold ordErr
  generalize famErr n f = e at *
  generalize isOrdB o n = b at *
  simp [A70]
  try simp 
  repeat' (first
    | (refine CallX.pure (hv) (by simp) (by simp) ?_; try simp )
    | (refine CallK.intro (hv) (by simp) (by simp) ?_; try simp )
    | (refine CallG.intro (fun _ => hv) (by simp) (by simp) ?_; try simp )
    | ((with_reducible refine PreK.intro ?_ ?_); (next => (first | omega | (intros; first | omega | (refine ⟨by omega, ?_⟩; repeat (first | assumption | constructor)) | assumption))); intro _; try simp )
    | fail)
  refine CondK.intro (fun h1 => ?_) (fun h1 => ?_)
  · simp at h1
    simp [h1]
  · simp at h1
    subst h1
    try simp 
    repeat' (first
      | (refine CallX.pure (hi) (by simp) (by simp) ?_; try simp )
      | (refine CallK.intro (hi) (by simp) (by simp) ?_; try simp )
      | (refine CallG.intro (fun _ => hi) (by simp) (by simp) ?_; try simp )
      | ((with_reducible refine PreK.intro ?_ ?_); (next => (first | omega | (intros; first | omega | (refine ⟨by omega, ?_⟩; repeat (first | assumption | constructor)) | assumption))); intro _; try simp )
      | fail)
    cases b with
    | false =>
      refine CondK.tt ?_
      try simp 
      repeat (refine PreK.intro (by first | omega | (intros; first | omega | (refine ⟨by omega, ?_⟩; simp_all; done) | (simp_all; done) | (simp_all; omega))) fun _ => ?_; (try simp ))
    | true =>
      refine CondK.ff ?_
      try simp 
      repeat (refine PreK.intro (by first | omega | (intros; first | omega | (refine ⟨by omega, ?_⟩; simp_all; done) | (simp_all; done) | (simp_all; omega))) fun _ => ?_; (try simp ))
def FitsE (n : Int) (f : List (List Int)) (o : List Int) : Bool × Int := if ordErr n f o ≠ 0 then (false, ordErr n f o) else (fitsM o f, 0)
theorem Fits_c (n : Int) (f : List (List Int)) (o : List Int) (h : Sm f) (ho : o.length ≤ 100) : CallP Tryz.prog 38 [iv n, tabV f, ints o] (.tup [bv (FitsE n f o).1, iv (FitsE n f o).2]) := by
  refine C38 (by simp) ?_
  have hv := ordered_c n f o h ho
  have hi := ends_c f o h ho
  unfold FitsE
  generalize ordErr n f o = e at *
  generalize fitsM o f = b at *
  simp [A38]
  try simp 
  repeat' (first
    | (refine CallX.pure (hv) (by simp) (by simp) ?_; try simp )
    | (refine CallK.intro (hv) (by simp) (by simp) ?_; try simp )
    | (refine CallG.intro (fun _ => hv) (by simp) (by simp) ?_; try simp )
    | ((with_reducible refine PreK.intro ?_ ?_); (next => (first | omega | (intros; first | omega | (refine ⟨by omega, ?_⟩; repeat (first | assumption | constructor)) | assumption))); intro _; try simp )
    | fail)
  refine CondK.intro (fun h1 => ?_) (fun h1 => ?_)
  · simp at h1
    simp [h1]
  · simp at h1
    subst h1
    try simp 
    repeat' (first
      | (refine CallX.pure (hi) (by simp) (by simp) ?_; try simp )
      | (refine CallK.intro (hi) (by simp) (by simp) ?_; try simp )
      | (refine CallG.intro (fun _ => hi) (by simp) (by simp) ?_; try simp )
      | ((with_reducible refine PreK.intro ?_ ?_); (next => (first | omega | (intros; first | omega | (refine ⟨by omega, ?_⟩; repeat (first | assumption | constructor)) | assumption))); intro _; try simp )
      | fail)
    repeat (refine PreK.intro (by first | omega | (intros; first | omega | (refine ⟨by omega, ?_⟩; simp_all; done) | (simp_all; done) | (simp_all; omega))) fun _ => ?_; (try simp ))
theorem large_c (l : List Int) : CallP Tryz.prog 12 [ints l] (bv (decide (100 < l.length))) := by
  refine C12 (by simp) ?_
  simp [A12]
  omega
def longT (t : List (List Int)) : Bool := decide (50 < t.length) || t.any fun r => decide (100 < r.length)
theorem longT_small {t : List (List Int)} (h : longT t = false) : Sm t := by
  unfold longT at h
  simp only [Bool.or_eq_false_iff, decide_eq_false_iff_not, List.any_eq_false, decide_eq_true_eq] at h
  exact ⟨by omega, fun r hr => by have := h.2 r hr; omega⟩
theorem Long_c (t : List (List Int)) (hb : t.length ≤ big) : CallP Tryz.prog 11 [tabV t] (bv (longT t)) := by
  refine C11 (by simp) ?_
  generalize hR : longT t = R
  unfold longT at hR
  simp [A11]
  refine CondK.intro (fun h1 => ?_) (fun h1 => ?_)
  · simp at h1
    have h1' : 50 < t.length := by omega
    simp only [h1', decide_true, Bool.true_or] at hR
    try simp 
    first | exact hR | exact hR.symm
  · simp at h1
    have h1' : ¬ 50 < t.length := by omega
    simp only [h1', decide_false, Bool.false_or] at hR
    try simp 
    refine LoopK.by (fun i : Nat => ⟨[(3, iv i), (0, tabV t)], []⟩) (fun i => t.length - i) (fun i => i ≤ t.length ∧ ((t.drop i).any fun r => decide (100 < r.length)) = R) 0 (by simpa using hR) (by simp) ?_
    intro i Q' ⟨hi, hc⟩ hq he hr'
    try simp 
    refine CondK.intro (fun h2 => ?_) (fun h2 => ?_)
    · simp at h2
      have hlg := large_c (el t i)
      rw [drop_cons t i h2, List.any_cons] at hc
      generalize decide (100 < (el t i).length) = b at hlg hc
      try simp [h2]
      repeat' (first
        | (refine CallX.pure (hlg) (by simp) (by simp) ?_; try simp [h2])
        | (refine CallK.intro (hlg) (by simp) (by simp) ?_; try simp [h2])
        | (refine CallG.intro (fun _ => hlg) (by simp) (by simp) ?_; try simp [h2])
        | ((with_reducible refine PreK.intro ?_ ?_); (next => (first | omega | (intros; first | omega | (refine ⟨by omega, ?_⟩; repeat (first | assumption | constructor)) | assumption))); intro _; try simp [h2])
        | fail)
      cases b with
      | true =>
        refine CondK.tt ?_
        try simp 
        apply hr'
        simpa using hc
      | false =>
        refine CondK.ff ?_
        try simp 
        repeat (refine PreK.intro (by first | omega | (intros; first | omega | (refine ⟨by omega, ?_⟩; simp_all; done) | (simp_all; done) | (simp_all; omega))) fun _ => ?_; (try simp ))
        exact hq (i + 1) _ ⟨by omega, by simpa using hc⟩ (by omega) (by simp)
    · simp at h2
      rw [List.drop_eq_nil_of_le (by omega)] at hc
      simp only [List.any_nil] at hc
      try simp 
      apply he
      try simp 
      first | exact hc | exact hc.symm
end Go.Proofs.YtgfgkfkplidncaaGreat
end

section
/- Contracts: what the program and the document say of a table: sounds, rows, names, classes. -/
namespace Go.Proofs.YtgfgkfkplidncaaGreat
open Go.Abs Go
set_option maxRecDepth 20000
set_option maxHeartbeats 2000000
attribute [local irreducible] PreK CondK CallK CallG CallX LoopK
attribute [local simp] avsEq avEq akind teq vkind vEq

theorem tab_sm {t : Tab} (h : TabOK t) : Sm t := by
  have h1 := h.num
  refine ⟨by omega, fun r hr => ?_⟩
  have h3 : r.Sublist t.flatten := List.sublist_flatten_of_mem hr
  have := h3.length_le
  have := h.len
  omega
def StandE (t : Tab) (s r : Int) : List Int × Int := if tabErr t ≠ 0 then ([], tabErr t) else if isName t s r then (standM t s r.toNat, 0) else ([], 4)
theorem Stand_c (t : Tab) (s r : Int) (h : Sm t) : CallP Tryz.prog 40 [tabV t, pairV (s, r)] (.tup [ints (StandE t s r).1, iv (StandE t s r).2]) := by
  refine C40 (by simp) ?_
  have hv := Validate_c t h
  unfold StandE
  by_cases h0 : tabErr t = 0
  · have hlo := lineOf_c t (tabErr_zero.1 h0)
    have hst := stand_c t (tabErr_zero.1 h0) s r
    rw [h0] at hv ⊢
    unfold lineV at hlo hst
    unfold standE at hst
    generalize t.flatten = L at *
    generalize rowsF 0 t = R at *
    generalize standM t s r.toNat = S at *
    generalize isName t s r = b at *
    simp [A40]
    try simp 
    repeat' (first
      | (refine CallX.pure (hv) (by simp) (by simp) ?_; try simp )
      | (refine CallK.intro (hv) (by simp) (by simp) ?_; try simp )
      | (refine CallG.intro (fun _ => hv) (by simp) (by simp) ?_; try simp )
      | ((with_reducible refine PreK.intro ?_ ?_); (next => (first | omega | (intros; first | omega | (refine ⟨by omega, ?_⟩; repeat (first | assumption | constructor)) | assumption))); intro _; try simp )
      | fail)
    refine CondK.ff ?_
    try simp 
    repeat (refine PreK.intro (by first | omega | (intros; first | omega | (refine ⟨by omega, ?_⟩; simp_all; done) | (simp_all; done) | (simp_all; omega))) fun _ => ?_; (try simp ))
    refine CallK.intro (by simpa using hlo) (by simp) (by simp) ?_
    try simp 
    repeat (refine PreK.intro (by first | omega | (intros; first | omega | (refine ⟨by omega, ?_⟩; simp_all; done) | (simp_all; done) | (simp_all; omega))) fun _ => ?_; (try simp ))
    cases b with
    | true =>
      simp only [if_true] at hst
      refine CallK.intro (by simpa using hst) (by simp) (by simp) ?_
      try simp 
      try simp 
      repeat (refine PreK.intro (by first | omega | (intros; first | omega | (refine ⟨by omega, ?_⟩; simp_all; done) | (simp_all; done) | (simp_all; omega))) fun _ => ?_; (try simp ))
      refine CondK.ff ?_
      try simp 
      repeat (refine PreK.intro (by first | omega | (intros; first | omega | (refine ⟨by omega, ?_⟩; simp_all; done) | (simp_all; done) | (simp_all; omega))) fun _ => ?_; (try simp ))
    | false =>
      simp only [Bool.false_eq_true, if_false] at hst
      refine CallK.intro (by simpa using hst) (by simp) (by simp) ?_
      try simp 
      try simp 
      repeat (refine PreK.intro (by first | omega | (intros; first | omega | (refine ⟨by omega, ?_⟩; simp_all; done) | (simp_all; done) | (simp_all; omega))) fun _ => ?_; (try simp ))
      refine CondK.tt ?_
      try simp 
      repeat (refine PreK.intro (by first | omega | (intros; first | omega | (refine ⟨by omega, ?_⟩; simp_all; done) | (simp_all; done) | (simp_all; omega))) fun _ => ?_; (try simp ))
  · rw [if_pos h0]
    generalize tabErr t = e at *
    simp [A40]
    try simp 
    repeat' (first
      | (refine CallX.pure (hv) (by simp) (by simp) ?_; try simp )
      | (refine CallK.intro (hv) (by simp) (by simp) ?_; try simp )
      | (refine CallG.intro (fun _ => hv) (by simp) (by simp) ?_; try simp )
      | ((with_reducible refine PreK.intro ?_ ?_); (next => (first | omega | (intros; first | omega | (refine ⟨by omega, ?_⟩; repeat (first | assumption | constructor)) | assumption))); intro _; try simp )
      | fail)
    refine CondK.intro (fun h1 => ?_) (fun h1 => ?_)
    · repeat (refine PreK.intro (by first | omega | (intros; first | omega | (refine ⟨by omega, ?_⟩; simp_all; done) | (simp_all; done) | (simp_all; omega))) fun _ => ?_; (try simp ))
    · simp at h1
      exact absurd h1 h0
end Go.Proofs.YtgfgkfkplidncaaGreat
end

section
/- Contracts: the document's list of all orders; its first and its best one. -/
namespace Go.Proofs.YtgfgkfkplidncaaGreat
open Go.Abs Go
set_option maxRecDepth 20000
set_option maxHeartbeats 2000000
attribute [local irreducible] PreK CondK CallK CallG CallX LoopK
attribute [local simp] avsEq avEq akind teq vkind vEq

/-! ### the first order, and the best one -/
def OrderE (n : Int) (f : List (List Int)) : List Int × Bool × Int := if famErr n f ≠ 0 then ([], false, famErr n f) else ((OrderM n.toNat f).1, (OrderM n.toNat f).2, 0)
def FewE (n : Int) (f : List (List Int)) : Int × Bool × Int := if famErr n f ≠ 0 then (0, false, famErr n f) else (fewM f n.toNat, decide (0 < fewM f n.toNat), 0)
end Go.Proofs.YtgfgkfkplidncaaGreat
end

section
/- Contracts: the program's orders, marks and tables. -/
namespace Go.Proofs.YtgfgkfkplidncaaGreat
open Go.Abs Go
set_option maxRecDepth 20000
set_option maxHeartbeats 2000000
attribute [local irreducible] PreK CondK CallK CallG CallX LoopK
attribute [local simp] avsEq avEq akind teq vkind vEq

theorem callB_weak {P : Program} {f : FuncId} {as' : List AV} {m m' : List (Nat × Option Box)} {r : AV} (h : CallB P f (weakL as') m r m') : CallB P f as' m r m' :=
  ⟨h.1, fun w X μ vs h1 h2 h3 h4 h5 => h.2 w X μ vs h1 h2 h3 (by rw [weakL_length]; exact h4) fun i hi => by
    rw [weakL_length] at hi
    rw [weakL_get hi]
    exact (h5 i hi).weak⟩
theorem best_c (f : List (List Int)) (n : Nat) (hf : FamOK n f) : CallP Tryz.prog 62 [iv n, tabV f] (.tup [ints (bestF f n).1, ints (bestF f n).2, bv (decide ((bestF f n).1 ≠ []))]) := by
  refine C62 (by simp) ?_
  have hd := orders2_b f n hf n [] ([], []) (fun h => absurd rfl h) (by simp) (by simp) (by simp)
  have hI := bothI_run f (ordF n n []) ([], []) (fun h => absurd rfl h)
  unfold bestF allO
  generalize runT (stepB f) ([], []) (ordF n n []) = R at hd hI ⊢
  obtain ⟨⟨s1, s2⟩, r⟩ := R
  unfold bothI at hI
  dsimp only at hd hI ⊢
  simp only [bM, bP, slV_nil] at hd
  simp [A62]
  by_cases h1 : s1 = []
  · subst h1
    simp only [slV_nil] at hd
    rcases slV_cases s2 with e2 | e2
    · have : s2 = [] := by
        unfold slV at e2
        split at e2
        · assumption
        · cases e2
      subst this
      simp only [e2] at hd
      refine CallX.boxes [(3, 1, 101), (7, 1, 102), (8, 1, 103)] (by simp) (callB_weak (by simpa [weakL, weak] using hd)) ?_
      try simp 
      repeat (refine PreK.intro (by first | omega | (intros; first | omega | (refine ⟨by omega, ?_⟩; simp_all; done) | (simp_all; done) | (simp_all; omega))) fun _ => ?_; (try simp ))
    · simp only [e2] at hd
      refine CallX.boxes [(3, 1, 101), (7, 1, 102), (8, 1, 103)] (by simp) (callB_weak (by simpa [weakL, weak] using hd)) ?_
      try simp 
      repeat (refine PreK.intro (by first | omega | (intros; first | omega | (refine ⟨by omega, ?_⟩; simp_all; done) | (simp_all; done) | (simp_all; omega))) fun _ => ?_; (try simp ))
  · simp only [slV_ne h1, slV_ne (hI h1)] at hd
    refine CallX.boxes [(3, 1, 101), (7, 1, 102), (8, 1, 103)] (by simp) (callB_weak (by simpa [weakL, weak] using hd)) ?_
    try simp [h1]
    repeat (refine PreK.intro (by first | omega | (intros; first | omega | (refine ⟨by omega, ?_⟩; simp_all; done) | (simp_all; done) | (simp_all; omega))) fun _ => ?_; (try simp [h1]))
theorem Order_c (n : Int) (f : List (List Int)) (hs : Sm f) : CallP Tryz.prog 37 [iv n, tabV f] (.tup [ints (OrderE n f).1, bv (OrderE n f).2.1, iv (OrderE n f).2.2]) := by
  refine C37 (by simp) ?_
  have hv := ValidateFamily_c n f hs
  unfold OrderE
  by_cases h0 : famErr n f = 0
  · obtain ⟨k, rfl, hf⟩ := famErr_zero h0
    rw [if_neg (by simpa using h0)]
    rw [h0] at hv
    have hd := orders1_b f k hf k [] [] trivial (by simp) (by simp) (by simp)
    rw [Int.toNat_natCast, order_spec hf.lo f]
    unfold allO
    generalize runT (stepO f) [] (ordF k k []) = R at hd ⊢
    obtain ⟨s1, r⟩ := R
    dsimp only at hd ⊢
    simp only [oM, oP, slV_nil] at hd
    simp [A37]
    try simp 
    repeat' (first
      | (refine CallX.pure (hv) (by simp) (by simp) ?_; try simp )
      | (refine CallK.intro (hv) (by simp) (by simp) ?_; try simp )
      | (refine CallG.intro (fun _ => hv) (by simp) (by simp) ?_; try simp )
      | ((with_reducible refine PreK.intro ?_ ?_); (next => (first | omega | (intros; first | omega | (refine ⟨by omega, ?_⟩; repeat (first | assumption | constructor)) | assumption))); intro _; try simp )
      | fail)
    refine CondK.ff ?_
    try simp 
    repeat (refine PreK.intro (by first | omega | (intros; first | omega | (refine ⟨by omega, ?_⟩; simp_all; done) | (simp_all; done) | (simp_all; omega))) fun _ => ?_; (try simp ))
    by_cases h1 : s1 = []
    · subst h1
      simp only [slV_nil] at hd
      refine CallX.boxes [(3, 1, 101), (8, 1, 102)] (by simp) (callB_weak (by simpa [weakL, weak] using hd)) ?_
      try simp 
      repeat (refine PreK.intro (by first | omega | (intros; first | omega | (refine ⟨by omega, ?_⟩; simp_all; done) | (simp_all; done) | (simp_all; omega))) fun _ => ?_; (try simp ))
    · simp only [slV_ne h1] at hd
      refine CallX.boxes [(3, 1, 101), (8, 1, 102)] (by simp) (callB_weak (by simpa [weakL, weak] using hd)) ?_
      try simp [h1]
      repeat (refine PreK.intro (by first | omega | (intros; first | omega | (refine ⟨by omega, ?_⟩; simp_all; done) | (simp_all; done) | (simp_all; omega))) fun _ => ?_; (try simp [h1]))
  · rw [if_pos h0]
    generalize famErr n f = e at *
    simp [A37]
    try simp 
    repeat' (first
      | (refine CallX.pure (hv) (by simp) (by simp) ?_; try simp )
      | (refine CallK.intro (hv) (by simp) (by simp) ?_; try simp )
      | (refine CallG.intro (fun _ => hv) (by simp) (by simp) ?_; try simp )
      | ((with_reducible refine PreK.intro ?_ ?_); (next => (first | omega | (intros; first | omega | (refine ⟨by omega, ?_⟩; repeat (first | assumption | constructor)) | assumption))); intro _; try simp )
      | fail)
    refine CondK.intro (fun h1 => ?_) (fun h1 => ?_)
    · repeat (refine PreK.intro (by first | omega | (intros; first | omega | (refine ⟨by omega, ?_⟩; simp_all; done) | (simp_all; done) | (simp_all; omega))) fun _ => ?_; (try simp ))
    · simp at h1
      exact absurd h1 h0
theorem Fewest_c (n : Int) (f : List (List Int)) (hs : Sm f) : CallP Tryz.prog 30 [iv n, tabV f] (.tup [iv (FewE n f).1, bv (FewE n f).2.1, iv (FewE n f).2.2]) := by
  refine C30 (by simp) ?_
  have hv := ValidateFamily_c n f hs
  unfold FewE
  by_cases h0 : famErr n f = 0
  · obtain ⟨k, rfl, hf⟩ := famErr_zero h0
    have hb := best_c f k hf
    have hok := best_ok hf.lo f
    have hnn := (few_le f (allO k) 0 (Int.le_refl 0)).1
    rw [if_neg (by simpa using h0)]
    rw [h0] at hv
    rw [Int.toNat_natCast]
    rw [show fewF f 0 (allO k) = fewM f k from rfl] at hnn
    generalize fewM f k = m at *
    generalize bestF f k = B at *
    obtain ⟨o, l⟩ := B
    obtain ⟨b1, b2, _⟩ := hok
    dsimp only at hb b1 b2
    subst b1
    have hdec : decide (o ≠ []) = decide (0 < (l.length : Int)) := by
      rw [Bool.eq_iff_iff]
      simp only [decide_eq_true_eq, ne_eq, b2]
      omega
    rw [hdec] at hb
    simp [A30]
    try simp 
    repeat' (first
      | (refine CallX.pure (hv) (by simp) (by simp) ?_; try simp )
      | (refine CallK.intro (hv) (by simp) (by simp) ?_; try simp )
      | (refine CallG.intro (fun _ => hv) (by simp) (by simp) ?_; try simp )
      | ((with_reducible refine PreK.intro ?_ ?_); (next => (first | omega | (intros; first | omega | (refine ⟨by omega, ?_⟩; repeat (first | assumption | constructor)) | assumption))); intro _; try simp )
      | fail)
    refine CondK.ff ?_
    try simp 
    try simp 
    repeat' (first
      | (refine CallX.pure (hb) (by simp) (by simp) ?_; try simp )
      | (refine CallK.intro (hb) (by simp) (by simp) ?_; try simp )
      | (refine CallG.intro (fun _ => hb) (by simp) (by simp) ?_; try simp )
      | ((with_reducible refine PreK.intro ?_ ?_); (next => (first | omega | (intros; first | omega | (refine ⟨by omega, ?_⟩; repeat (first | assumption | constructor)) | assumption))); intro _; try simp )
      | fail)
    repeat (refine PreK.intro (by first | omega | (intros; first | omega | (refine ⟨by omega, ?_⟩; simp_all; done) | (simp_all; done) | (simp_all; omega))) fun _ => ?_; (try simp ))
  · rw [if_pos h0]
    generalize famErr n f = e at *
    simp [A30]
    try simp 
    repeat' (first
      | (refine CallX.pure (hv) (by simp) (by simp) ?_; try simp )
      | (refine CallK.intro (hv) (by simp) (by simp) ?_; try simp )
      | (refine CallG.intro (fun _ => hv) (by simp) (by simp) ?_; try simp )
      | ((with_reducible refine PreK.intro ?_ ?_); (next => (first | omega | (intros; first | omega | (refine ⟨by omega, ?_⟩; repeat (first | assumption | constructor)) | assumption))); intro _; try simp )
      | fail)
    refine CondK.intro (fun h1 => ?_) (fun h1 => ?_)
    · repeat (refine PreK.intro (by first | omega | (intros; first | omega | (refine ⟨by omega, ?_⟩; simp_all; done) | (simp_all; done) | (simp_all; omega))) fun _ => ?_; (try simp ))
    · simp at h1
      exact absurd h1 h0
end Go.Proofs.YtgfgkfkplidncaaGreat
end

section
/- Contracts: the statements SoundTables, SoundFits, SoundOrders, SoundFewest, SoundNames. -/
namespace Go.Proofs.YtgfgkfkplidncaaGreat
open Go.Abs Go
set_option maxRecDepth 20000
set_option maxHeartbeats 2000000
attribute [local irreducible] PreK CondK CallK CallG CallX LoopK
attribute [local simp] avsEq avEq akind teq vkind vEq

theorem order_len (n : Int) (f : List (List Int)) : (OrderE n f).1.length ≤ 6 := by
  unfold OrderE
  split
  · simp
  · rename_i h0
    obtain ⟨k, rfl, hf⟩ := famErr_zero (by simpa using h0)
    dsimp only
    rw [Int.toNat_natCast]
    cases hb : (OrderM k f).2 with
    | true =>
      have := (order_fits hb).1.len
      have := hf.hi
      omega
    | false =>
      unfold OrderM at hb ⊢
      split at hb
      · cases hb
      · simp
end Go.Proofs.YtgfgkfkplidncaaGreat
end

section
/- Contracts: by which names a set is named; the statements SoundStands, SoundNamed. -/
namespace Go.Proofs.YtgfgkfkplidncaaGreat
open Go.Abs Go
set_option maxRecDepth 20000
set_option maxHeartbeats 2000000
attribute [local irreducible] PreK CondK CallK CallG CallX LoopK
attribute [local simp] avsEq avEq akind teq vkind vEq

abbrev Nm := Int × Int
def idxG (p : Nm → Bool) : Nat → List Nm → Int
  | _, [] => -1
  | k, x :: r => if p x then k else idxG p (k + 1) r
theorem idxG_none {p : Nm → Bool} : ∀ {l : List Nm} {k : Nat}, idxG p k l = -1 → l.filter (fun x => !p x) = l
  | [], k, _ => rfl
  | x :: r, k, h => by
    rw [idxG] at h
    split at h
    · omega
    · rename_i hx
      simp only [Bool.not_eq_true] at hx
      simp [hx, idxG_none h]
theorem idxG_at {p : Nm → Bool} : ∀ {l : List Nm} {k : Nat}, idxG p k l ≠ -1 → ∃ i : Nat, idxG p k l = ((k + i : Nat) : Int) ∧ i < l.length ∧ (l.take i).filter (fun x => !p x) = l.take i ∧ p (el l i) = true
  | [], k, h => by simp [idxG] at h
  | x :: r, k, h => by
    rw [idxG] at h
    by_cases hx : p x = true
    · exact ⟨0, by rw [idxG, if_pos hx]; simp, by simp, by simp, by simpa [el] using hx⟩
    · rw [if_neg hx] at h
      obtain ⟨i, h1, h2, h3, h4⟩ := idxG_at h
      simp only [Bool.not_eq_true] at hx
      refine ⟨i + 1, by rw [idxG, hx]; simp only [Bool.false_eq_true, if_false]; rw [h1]; congr 1; omega, by simpa using h2, by simp [hx, h3], by simpa [el] using h4⟩
theorem el_setN (o : List Nm) (i k : Nat) (v : Nm) (hi : i < o.length) : el (o.set i v) k = if i = k then v else el o k := by
  unfold el
  rw [List.getD_eq_getElem?_getD, List.getD_eq_getElem?_getD, List.getElem?_set]
  by_cases h : i = k
  · subst h; simp [hi]
  · simp [h]
theorem indexFuncN_c (l : List Nm) (hl : l.length ≤ 1000) (f : FuncId) (cap : List AV) (p : Nm → Bool) (hp : ∀ x, CallP Tryz.prog f (pairV x :: cap) (bv (p x))) (h1 : ∀ m, snapL m cap = cap) (h2 : AV.refsL cap = []) (h3 : ∀ m, snapOKL m cap) :
    CallP Tryz.prog 86 [namesV l, .fn f [] cap] (iv (idxG p 0 l)) := by
  refine C86 (by simp) ?_
  generalize hR : idxG p 0 l = R
  simp [A86]
  refine LoopK.by (fun i : Nat => ⟨[(8, iv i), (7, iv l.length), (0, namesV l), (1, .fn f [] cap)], []⟩) (fun i => l.length - i) (fun i => i ≤ l.length ∧ idxG p i (l.drop i) = R) 0 (by simpa using hR) (by simp [h2]) ?_
  intro i Q' ⟨hi, hc⟩ hq he hr
  try simp 
  refine CondK.intro (fun h => ?_) (fun h => ?_)
  · simp at h
    rw [drop_cons l i h, idxG] at hc
    have hpx := hp (el l i)
    simp only [pairV] at hpx
    generalize p (el l i) = b at hpx hc
    try simp [h]
    repeat (refine PreK.intro (by first | omega | (intros; first | omega | (refine ⟨by omega, ?_⟩; simp_all; done) | (simp_all; done) | (simp_all; omega))) fun _ => ?_; (try simp [h]))
    refine CallX.pure (by simpa [h1] using hpx) (by simp [h3]) (by simp) ?_
    try simp 
    cases b with
    | true =>
      simp only [if_true] at hc
      refine CondK.tt ?_
      try simp 
      repeat (refine PreK.intro (by first | omega | (intros; first | omega | (refine ⟨by omega, ?_⟩; simp_all; done) | (simp_all; done) | (simp_all; omega))) fun _ => ?_; (try simp ))
      apply hr
      simp [hc]
    | false =>
      simp only [Bool.false_eq_true, if_false] at hc
      refine CondK.ff ?_
      try simp 
      repeat (refine PreK.intro (by first | omega | (intros; first | omega | (refine ⟨by omega, ?_⟩; simp_all; done) | (simp_all; done) | (simp_all; omega))) fun _ => ?_; (try simp ))
      exact hq (i + 1) _ ⟨by omega, hc⟩ (by omega) (by simp [h2])
  · simp at h
    rw [List.drop_eq_nil_of_le (by omega), idxG] at hc
    try simp 
    apply he
    simp [hc]
theorem deleteFuncN_L (l : List Nm) (hl : l.length ≤ 1000) (f : FuncId) (cap : List AV) (p : Nm → Bool) (hp : ∀ x, CallP Tryz.prog f (pairV x :: cap) (bv (p x))) (h1 : ∀ m, snapL m cap = cap) (h2 : AV.refsL cap = []) (h3 : ∀ m, snapOKL m cap) :
    CallL Tryz.prog 45 [] 2 (l.map pairV) [.fn f [] cap] (.part (l.filter fun x => !p x).length) (((l.filter fun x => !p x) ++ List.replicate (l.length - (l.filter fun x => !p x).length) (0, 0)).map pairV) := by
  refine CL45 (by simp) ?_
  generalize hR : (l.filter fun x => !p x) = R
  have hx := indexFuncN_c l hl f cap p hp h1 h2 h3
  simp [A45]
  refine CallX.pure (by simpa [h1] using hx) (by simp [h3]) (by simp) ?_
  try simp 
  refine CondK.intro (fun hc => ?_) (fun hc => ?_)
  · simp at hc
    have := idxG_none hc
    rw [this] at hR
    subst hR
    simp
  · simp at hc
    obtain ⟨i0, e1, e2, e3, e4⟩ := idxG_at hc
    rw [e1]
    repeat (refine PreK.intro (by first | omega | (intros; first | omega | (refine ⟨by omega, ?_⟩; simp_all; done) | (simp_all; done) | (simp_all; omega))) fun _ => ?_; (try simp ))
    have hin : l.take i0 ++ (l.drop (i0 + 1)).filter (fun x => !p x) = R := by
      rw [← hR]
      conv => rhs; rw [← List.take_append_drop i0 l, List.filter_append, e3, drop_cons l i0 e2]
      simp [e4]
    refine LoopK.by (ι := Nat × List Nm × List Nm) (fun i => ⟨[(6, iv i.1), (5, iv i.2.1.length), (0, .sl lid 0 0 l.length), (1, .fn f [] cap)], [(lid, some ⟨2, i.2.2.map pairV, 0, false⟩)]⟩) (fun i => l.length - i.1)
      (fun i => i.1 ≤ l.length ∧ i.2.1.length < i.1 ∧ i.2.2.length = l.length ∧ (∀ k, i.1 ≤ k → el i.2.2 k = el l k) ∧ i.2.2.take i.2.1.length = i.2.1 ∧ i.2.1 ++ (l.drop i.1).filter (fun x => !p x) = R) (i0 + 1, l.take i0, l) ⟨by dsimp only; omega, by simp; omega, rfl, fun _ _ => rfl, by simp, hin⟩ (by have hm : min i0 l.length = i0 := (by omega); simp [h2, hm]) ?_
    intro ⟨j, kept, cur⟩ Q' ⟨hj, hk, hcl, hce, hct, hin⟩ hq he hr
    dsimp only at hj hk hcl hce hct hin
    try simp 
    refine CondK.intro (fun h4 => ?_) (fun h4 => ?_)
    · simp at h4
      have hej := hce j (Nat.le_refl _)
      rw [drop_cons l j h4, List.filter_cons] at hin
      have hcj : j < cur.length := by omega
      have hpx := hp (el l j)
      simp only [pairV] at hpx
      generalize p (el l j) = b at hpx hin
      try simp [hcj, hej]
      repeat (refine PreK.intro (by first | omega | (intros; first | omega | (refine ⟨by omega, ?_⟩; simp_all; done) | (simp_all; done) | (simp_all; omega))) fun _ => ?_; (try simp [hcj, hej]))
      refine CallX.pure (by simpa [h1, hej] using hpx) (by simp [h3]) (by simp) ?_
      try simp 
      cases b with
      | false =>
        simp only [Bool.not_false, if_true] at hin
        have hkc : kept.length < cur.length := by omega
        try simp [hcj, hej, hkc]
        repeat (refine PreK.intro (by first | omega | (intros; first | omega | (refine ⟨by omega, ?_⟩; simp_all; done) | (simp_all; done) | (simp_all; omega))) fun _ => ?_; (try simp [hcj, hej, hkc]))
        refine CondK.tt ?_
        try simp 
        try simp [hcj, hej, hkc]
        repeat (refine PreK.intro (by first | omega | (intros; first | omega | (refine ⟨by omega, ?_⟩; simp_all; done) | (simp_all; done) | (simp_all; omega))) fun _ => ?_; (try simp [hcj, hej, hkc]))
        refine hq (j + 1, kept ++ [el l j], cur.set kept.length (el l j)) _ ⟨by dsimp only; omega, by simp; omega, by simpa using hcl, fun k hk2 => ?_, ?_, by simpa using hin⟩ (by dsimp only; omega) (by simp [h2, hkc, hcj, hej, List.map_set])
        · dsimp only at hk2 ⊢
          rw [el_setN _ _ _ _ (by omega), if_neg (by omega)]
          exact hce k (by omega)
        · simp only [List.length_append, List.length_cons, List.length_nil]
          rw [take_setG _ _ _ (by omega), hct]
      | true =>
        simp only [Bool.not_true, Bool.false_eq_true, if_false] at hin
        try simp [hcj, hej]
        repeat (refine PreK.intro (by first | omega | (intros; first | omega | (refine ⟨by omega, ?_⟩; simp_all; done) | (simp_all; done) | (simp_all; omega))) fun _ => ?_; (try simp [hcj, hej]))
        refine CondK.ff ?_
        try simp 
        repeat (refine PreK.intro (by first | omega | (intros; first | omega | (refine ⟨by omega, ?_⟩; simp_all; done) | (simp_all; done) | (simp_all; omega))) fun _ => ?_; (try simp ))
        exact hq (j + 1, kept, cur) _ ⟨by dsimp only; omega, by dsimp only; omega, hcl, fun k hk2 => hce k (by dsimp only at hk2; omega), hct, hin⟩ (by dsimp only; omega) (by simp [h2])
    · simp at h4
      rw [List.drop_eq_nil_of_le (by omega)] at hin
      simp only [List.filter_nil, List.append_nil] at hin
      subst hin
      have e5 : (cur.map pairV).take kept.length = kept.map pairV := by rw [← List.map_take, hct]
      have e6 : (cur.map pairV).drop (kept.length + (l.length - kept.length)) = [] := List.drop_eq_nil_of_le (by simp; omega)
      try simp 
      apply he
      repeat (refine PreK.intro (by first | omega | (intros; first | omega | (refine ⟨by omega, ?_⟩; simp_all; done) | (simp_all; done) | (simp_all; omega))) fun _ => ?_; (try simp ))
      simp [e5, e6]
theorem standE_len {t : Tab} (h : TabOK t) (s r : Int) : (standE t s r).1.length ≤ 6 := by
  unfold standE
  split
  · exact six_len ((sortI_perm _).nodup_iff.2 (seg_nd h _ _)) fun y hy => seg_val h (mem_sortI.1 hy)
  · simp
theorem named1_c (t : Tab) (h : TabOK t) (set : List Int) (x : Nm) : CallP Tryz.prog 47 [pairV x, .ipt (lineV t) 0, .ipt (ints set) 0] (bv (!decide ((standE t x.1 x.2).1 = set))) := by
  refine C47 (by simp) ?_
  have hst := stand_c t h x.1 x.2
  have hel := standE_len h x.1 x.2
  unfold lineV at hst ⊢
  generalize standE t x.1 x.2 = S at *
  generalize t.flatten = L at *
  generalize rowsF 0 t = R at *
  obtain ⟨own, ok⟩ := S
  dsimp only at *
  have heq := equal_c own set (sbig (by omega))
  simp [A47]
  try simp 
  repeat' (first
    | (refine CallX.pure (hst) (by simp) (by simp) ?_; try simp )
    | (refine CallK.intro (hst) (by simp) (by simp) ?_; try simp )
    | (refine CallG.intro (fun _ => hst) (by simp) (by simp) ?_; try simp )
    | ((with_reducible refine PreK.intro ?_ ?_); (next => (first | omega | (intros; first | omega | (refine ⟨by omega, ?_⟩; repeat (first | assumption | constructor)) | assumption))); intro _; try simp )
    | fail)
  repeat (refine PreK.intro (by first | omega | (intros; first | omega | (refine ⟨by omega, ?_⟩; simp_all; done) | (simp_all; done) | (simp_all; omega))) fun _ => ?_; (try simp ))
  try simp 
  repeat' (first
    | (refine CallX.pure (heq) (by simp) (by simp) ?_; try simp )
    | (refine CallK.intro (heq) (by simp) (by simp) ?_; try simp )
    | (refine CallG.intro (fun _ => heq) (by simp) (by simp) ?_; try simp )
    | ((with_reducible refine PreK.intro ?_ ?_); (next => (first | omega | (intros; first | omega | (refine ⟨by omega, ?_⟩; repeat (first | assumption | constructor)) | assumption))); intro _; try simp )
    | fail)
  repeat (refine PreK.intro (by first | omega | (intros; first | omega | (refine ⟨by omega, ?_⟩; simp_all; done) | (simp_all; done) | (simp_all; omega))) fun _ => ?_; (try simp ))
def namedM (t : Tab) (set : List Int) : List Nm := (namesM t).filter fun x => decide (standM t x.1 x.2.toNat = set)
def NamedE (t : Tab) (set : List Int) : List Nm × Int := if tabErr t ≠ 0 then ([], tabErr t) else if setG 5 none set = false then ([], 1) else (namedM t set, 0)
theorem Named_c (t : Tab) (set : List Int) (h : Sm t) (hsl : set.length ≤ 1000) : CallP Tryz.prog 14 [tabV t, ints set] (.tup [namesV (NamedE t set).1, iv (NamedE t set).2]) := by
  refine C14 (by simp) ?_
  have hv := Validate_c t h
  have hi := isSet_c set 6 hsl (by omega)
  unfold NamedE
  by_cases h0 : tabErr t = 0
  · have hok := tabErr_zero.1 h0
    have hlo := lineOf_c t hok
    have hno := names_o t hok
    have hnn := names_num hok
    have hd := deleteFuncN_L (namesM t) (by omega) 47 [.ipt (lineV t) 0, .ipt (ints set) 0] _ (named1_c t hok set) (by simp) (by simp) (by simp)
    have hfl : ((namesM t).filter fun x => !!decide ((standE t x.1 x.2).1 = set)) = namedM t set := by
      unfold namedM
      refine List.filter_congr fun x hx => ?_
      have hn := (mem_namesM hok).1 hx
      rw [Bool.not_not, show standE t x.1 x.2 = (standM t x.1 x.2.toNat, true) by simp [standE, hn]]
    rw [hfl] at hd
    rw [h0] at hv ⊢
    rw [if_neg (by simp)]
    rw [show (6 : Int) - 1 = 5 by omega] at hi
    have hml : (namedM t set).length ≤ (namesM t).length := List.length_filter_le _ _
    unfold lineV at hlo hd
    generalize namesM t = N at *
    generalize namedM t set = M at *
    generalize t.flatten = L at *
    generalize rowsF 0 t = R at *
    generalize setG 5 none set = b at *
    simp [A14]
    try simp 
    repeat' (first
      | (refine CallX.pure (hv) (by simp) (by simp) ?_; try simp )
      | (refine CallK.intro (hv) (by simp) (by simp) ?_; try simp )
      | (refine CallG.intro (fun _ => hv) (by simp) (by simp) ?_; try simp )
      | ((with_reducible refine PreK.intro ?_ ?_); (next => (first | omega | (intros; first | omega | (refine ⟨by omega, ?_⟩; repeat (first | assumption | constructor)) | assumption))); intro _; try simp )
      | fail)
    refine CondK.ff ?_
    try simp 
    repeat (refine PreK.intro (by first | omega | (intros; first | omega | (refine ⟨by omega, ?_⟩; simp_all; done) | (simp_all; done) | (simp_all; omega))) fun _ => ?_; (try simp ))
    try simp 
    repeat' (first
      | (refine CallX.pure (hi) (by simp) (by simp) ?_; try simp )
      | (refine CallK.intro (hi) (by simp) (by simp) ?_; try simp )
      | (refine CallG.intro (fun _ => hi) (by simp) (by simp) ?_; try simp )
      | ((with_reducible refine PreK.intro ?_ ?_); (next => (first | omega | (intros; first | omega | (refine ⟨by omega, ?_⟩; repeat (first | assumption | constructor)) | assumption))); intro _; try simp )
      | fail)
    cases b with
    | false =>
      refine CondK.tt ?_
      try simp 
      repeat (refine PreK.intro (by first | omega | (intros; first | omega | (refine ⟨by omega, ?_⟩; simp_all; done) | (simp_all; done) | (simp_all; omega))) fun _ => ?_; (try simp ))
    | true =>
      refine CondK.ff ?_
      try simp 
      repeat (refine PreK.intro (by first | omega | (intros; first | omega | (refine ⟨by omega, ?_⟩; simp_all; done) | (simp_all; done) | (simp_all; omega))) fun _ => ?_; (try simp ))
      try simp 
      repeat' (first
        | (refine CallX.pure (hlo) (by simp) (by simp) ?_; try simp )
        | (refine CallK.intro (hlo) (by simp) (by simp) ?_; try simp )
        | (refine CallG.intro (fun _ => hlo) (by simp) (by simp) ?_; try simp )
        | ((with_reducible refine PreK.intro ?_ ?_); (next => (first | omega | (intros; first | omega | (refine ⟨by omega, ?_⟩; repeat (first | assumption | constructor)) | assumption))); intro _; try simp )
        | fail)
      repeat (refine PreK.intro (by first | omega | (intros; first | omega | (refine ⟨by omega, ?_⟩; simp_all; done) | (simp_all; done) | (simp_all; omega))) fun _ => ?_; (try simp ))
      refine CallX.own (by simpa using hno) (by simp) (by simp) ?_
      try simp 
      repeat (refine PreK.intro (by first | omega | (intros; first | omega | (refine ⟨by omega, ?_⟩; simp_all; done) | (simp_all; done) | (simp_all; omega))) fun _ => ?_; (try simp ))
      refine CallX.frz 7 (b := ⟨2, [.agg [ints L, ints R]], 1, true⟩) (by simp) (by simp) ?_
      refine CallX.frz 3 (b := ⟨1, [ints set], 1, true⟩) (by simp) (by simp) ?_
      try simp 
      refine CallX.lend [] (id := 19) (ver := 1) (n := N.length) (b := ⟨2, N.map pairV, 1, false⟩) [.fn 47 [] [.ipt (.agg [ints L, ints R]) 0, .ipt (ints set) 0]] (.part M.length) _ (by simp) (by simp) (by simp) (by simp) (by simp) (by simp) (by simp) (by simpa using hd) ?_
      repeat (refine PreK.intro (by first | omega | (intros; first | omega | (refine ⟨by omega, ?_⟩; simp_all; done) | (simp_all; done) | (simp_all; omega))) fun _ => ?_; (try simp ))
  · rw [if_pos h0]
    generalize tabErr t = e at *
    simp [A14]
    try simp 
    repeat' (first
      | (refine CallX.pure (hv) (by simp) (by simp) ?_; try simp )
      | (refine CallK.intro (hv) (by simp) (by simp) ?_; try simp )
      | (refine CallG.intro (fun _ => hv) (by simp) (by simp) ?_; try simp )
      | ((with_reducible refine PreK.intro ?_ ?_); (next => (first | omega | (intros; first | omega | (refine ⟨by omega, ?_⟩; repeat (first | assumption | constructor)) | assumption))); intro _; try simp )
      | fail)
    refine CondK.intro (fun h1 => ?_) (fun h1 => ?_)
    · repeat (refine PreK.intro (by first | omega | (intros; first | omega | (refine ⟨by omega, ?_⟩; simp_all; done) | (simp_all; done) | (simp_all; omega))) fun _ => ?_; (try simp ))
    · simp at h1
      exact absurd h1 h0
/-! ### the statements -/
theorem filter_one {α : Type} [DecidableEq α] {l : List α} {p : α → Bool} {x : α} (hn : l.Nodup) (hx : ∀ y, y ∈ l ∧ p y = true ↔ y = x) : l.filter p = [x] := by
  have h1 : (l.filter p).Perm [x] := perm_of_mem (List.Nodup.sublist List.filter_sublist hn) (by simp) fun y => by
    rw [List.mem_filter, List.mem_singleton]; exact hx y
  exact List.perm_singleton.1 h1
theorem named_one {t : Tab} (h : TabOK t) {s r : Int} (hn : isName t s r = true) : namedM t (standM t s r.toNat) = [(s, r)] := by
  obtain ⟨h1, h2, h3⟩ := name_of hn
  refine filter_one (ltN_nodup (namesM_sorted t)) fun y => ?_
  obtain ⟨a, b⟩ := y
  rw [mem_namesM h, decide_eq_true_eq]
  constructor
  · rintro ⟨k1, k2⟩
    obtain ⟨g1, g2, g3⟩ := name_of k1
    obtain ⟨rfl, e⟩ := stand_inj h g3 h3 g2 h2 k2
    exact Prod.ext rfl (by dsimp only; omega)
  · intro e
    cases e
    exact ⟨hn, rfl⟩
end Go.Proofs.YtgfgkfkplidncaaGreat
end

section
/- Contracts: marks, which tables name a family, the table that is made; the statements SoundMarks, SoundChecks, SoundMakes. -/
namespace Go.Proofs.YtgfgkfkplidncaaGreat
open Go.Abs Go
set_option maxRecDepth 20000
set_option maxHeartbeats 2000000
attribute [local irreducible] PreK CondK CallK CallG CallX LoopK
attribute [local simp] avsEq avEq akind teq vkind vEq

/-! ### marks -/
def MarksE (n : Int) (f : List (List Int)) (o : List Int) : Int × Int := if ordErr n f o ≠ 0 then (0, ordErr n f o) else if fitsM o f then ((marksN o f : Int), 0) else (0, 6)
theorem Marks_c (n : Int) (f : List (List Int)) (o : List Int) (h : Sm f) (ho : o.length ≤ 100) : CallP Tryz.prog 28 [iv n, tabV f, ints o] (.tup [iv (MarksE n f o).1, iv (MarksE n f o).2]) := by
  refine C28 (by simp) ?_
  have hv := ordered_c n f o h ho
  have hm := marks_c f o h ho
  have hml := marks_len o f
  unfold MarksE
  unfold marksP at hm
  generalize ordErr n f o = e at *
  generalize fitsM o f = b at *
  generalize marksN o f = k at *
  generalize marksM o f = M at *
  subst hml
  simp [A28]
  try simp 
  repeat' (first
    | (refine CallX.pure (hv) (by simp) (by simp) ?_; try simp )
    | (refine CallK.intro (hv) (by simp) (by simp) ?_; try simp )
    | (refine CallG.intro (fun _ => hv) (by simp) (by simp) ?_; try simp )
    | ((with_reducible refine PreK.intro ?_ ?_); (next => (first | omega | (intros; first | omega | (refine ⟨by omega, ?_⟩; repeat (first | assumption | constructor)) | assumption))); intro _; try simp )
    | fail)
  refine CondK.intro (fun h1 => ?_) (fun h1 => ?_)
  · simp at h1
    simp [h1]
  · simp at h1
    subst h1
    cases b with
    | true =>
      simp only [if_true] at hm
      try simp 
      repeat' (first
        | (refine CallX.pure (hm) (by simp) (by simp) ?_; try simp )
        | (refine CallK.intro (hm) (by simp) (by simp) ?_; try simp )
        | (refine CallG.intro (fun _ => hm) (by simp) (by simp) ?_; try simp )
        | ((with_reducible refine PreK.intro ?_ ?_); (next => (first | omega | (intros; first | omega | (refine ⟨by omega, ?_⟩; repeat (first | assumption | constructor)) | assumption))); intro _; try simp )
        | fail)
      try simp 
      repeat (refine PreK.intro (by first | omega | (intros; first | omega | (refine ⟨by omega, ?_⟩; simp_all; done) | (simp_all; done) | (simp_all; omega))) fun _ => ?_; (try simp ))
      refine CondK.ff ?_
      try simp 
      repeat (refine PreK.intro (by first | omega | (intros; first | omega | (refine ⟨by omega, ?_⟩; simp_all; done) | (simp_all; done) | (simp_all; omega))) fun _ => ?_; (try simp ))
    | false =>
      simp only [Bool.false_eq_true, if_false] at hm
      try simp 
      repeat' (first
        | (refine CallX.pure (hm) (by simp) (by simp) ?_; try simp )
        | (refine CallK.intro (hm) (by simp) (by simp) ?_; try simp )
        | (refine CallG.intro (fun _ => hm) (by simp) (by simp) ?_; try simp )
        | ((with_reducible refine PreK.intro ?_ ?_); (next => (first | omega | (intros; first | omega | (refine ⟨by omega, ?_⟩; repeat (first | assumption | constructor)) | assumption))); intro _; try simp )
        | fail)
      try simp 
      repeat (refine PreK.intro (by first | omega | (intros; first | omega | (refine ⟨by omega, ?_⟩; simp_all; done) | (simp_all; done) | (simp_all; omega))) fun _ => ?_; (try simp ))
      refine CondK.tt ?_
      try simp 
      repeat (refine PreK.intro (by first | omega | (intros; first | omega | (refine ⟨by omega, ?_⟩; simp_all; done) | (simp_all; done) | (simp_all; omega))) fun _ => ?_; (try simp ))
/-! ### which tables name a family -/
def idxW (p : List Int → Bool) : Nat → List (List Int) → Int
  | _, [] => -1
  | k, x :: r => if p x then k else idxW p (k + 1) r
theorem idxW_any (p : List Int → Bool) : ∀ (l : List (List Int)) (k : Nat), decide (0 ≤ idxW p k l) = l.any p
  | [], k => by simp [idxW]
  | x :: r, k => by
    by_cases h : p x = true
    · simp [idxW, h]
    · simp [idxW, h, idxW_any p r (k + 1)]
theorem indexFuncW_c (l : List (List Int)) (hl : l.length ≤ big) (f : FuncId) (cap : List AV) (p : List Int → Bool) (hp : ∀ x ∈ l, CallP Tryz.prog f (ints x :: cap) (bv (p x))) (h1 : ∀ m, snapL m cap = cap) (h2 : AV.refsL cap = []) (h3 : ∀ m, snapOKL m cap) :
    CallP Tryz.prog 95 [tabV l, .fn f [] cap] (iv (idxW p 0 l)) := by
  refine C95 (by simp) ?_
  generalize hR : idxW p 0 l = R
  simp [A95]
  refine LoopK.by (fun i : Nat => ⟨[(8, iv i), (7, iv l.length), (0, tabV l), (1, .fn f [] cap)], []⟩) (fun i => l.length - i) (fun i => i ≤ l.length ∧ idxW p i (l.drop i) = R) 0 (by simpa using hR) (by simp [h2]) ?_
  intro i Q' ⟨hi, hc⟩ hq he hr
  try simp 
  refine CondK.intro (fun h => ?_) (fun h => ?_)
  · simp at h
    have hpx := hp _ (el_mem_of l i h)
    rw [drop_cons l i h, idxW] at hc
    generalize p (el l i) = b at hpx hc
    try simp [h]
    repeat (refine PreK.intro (by first | omega | (intros; first | omega | (refine ⟨by omega, ?_⟩; simp_all; done) | (simp_all; done) | (simp_all; omega))) fun _ => ?_; (try simp [h]))
    refine CallX.pure (by simpa [h1] using hpx) (by simp [h3]) (by simp) ?_
    try simp 
    cases b with
    | true =>
      simp only [if_true] at hc
      refine CondK.tt ?_
      try simp 
      repeat (refine PreK.intro (by first | omega | (intros; first | omega | (refine ⟨by omega, ?_⟩; simp_all; done) | (simp_all; done) | (simp_all; omega))) fun _ => ?_; (try simp ))
      apply hr
      simp [hc]
    | false =>
      simp only [Bool.false_eq_true, if_false] at hc
      refine CondK.ff ?_
      try simp 
      refine PreK.intro (by simp only [big] at hl; omega) fun _ => ?_
      try simp 
      exact hq (i + 1) _ ⟨by omega, hc⟩ (by omega) (by simp [h2])
  · simp at h
    rw [List.drop_eq_nil_of_le (by omega), idxW] at hc
    try simp 
    apply he
    simp [hc]
theorem containsFuncW_c (l : List (List Int)) (hl : l.length ≤ big) (f : FuncId) (cap : List AV) (p : List Int → Bool) (hp : ∀ x ∈ l, CallP Tryz.prog f (ints x :: cap) (bv (p x))) (h1 : ∀ m, snapL m cap = cap) (h2 : AV.refsL cap = []) (h3 : ∀ m, snapOKL m cap) :
    CallP Tryz.prog 57 [tabV l, .fn f [] cap] (bv (l.any p)) := by
  refine C57 (by simp) ?_
  have hx := indexFuncW_c l hl f cap p hp h1 h2 h3
  rw [← idxW_any p l 0]
  generalize idxW p 0 l = q at *
  simp [A57]
  refine CallX.pure (by simpa [h1] using hx) (by simp [h3]) (by simp) ?_
  repeat (refine PreK.intro (by first | omega | (intros; first | omega | (refine ⟨by omega, ?_⟩; simp_all; done) | (simp_all; done) | (simp_all; omega))) fun _ => ?_; (try simp ))
theorem check1_c (own set : List Int) (h : own.length ≤ big) : CallP Tryz.prog 58 [ints own, .ipt (ints set) 0] (bv (decide (own = set))) := by
  refine C58 (by simp) ?_
  simp [A58]
  try simp 
  repeat' (first
    | (refine CallX.pure (equal_c own set h) (by simp) (by simp) ?_; try simp )
    | (refine CallK.intro (equal_c own set h) (by simp) (by simp) ?_; try simp )
    | (refine CallG.intro (fun _ => equal_c own set h) (by simp) (by simp) ?_; try simp )
    | ((with_reducible refine PreK.intro ?_ ?_); (next => (first | omega | (intros; first | omega | (refine ⟨by omega, ?_⟩; repeat (first | assumption | constructor)) | assumption))); intro _; try simp )
    | fail)
theorem CheckTable_c (n : Int) (f : List (List Int)) (t : Tab) (hf : Sm f) (ht : Sm t) : CallP Tryz.prog 17 [iv n, tabV f, tabV t] (iv (checkT n f t)) := by
  refine C17 (by simp) ?_
  have hv := ValidateFamily_c n f hf
  have hw := Validate_c t ht
  have hfn := hf.num
  unfold checkT
  by_cases h0 : famErr n f = 0
  · rw [if_neg (by simpa using h0)]
    rw [h0] at hv
    by_cases h1 : tabErr t = 0
    · rw [if_neg (by simpa using h1)]
      rw [h1] at hw
      have hok := tabErr_zero.1 h1
      have hlo := lineOf_c t hok
      have hl := hok.len
      have hio := isOrder_c t.flatten n (by omega)
      have hcl := classes_c t hok
      have hcn : (classesM t).length ≤ 36 := by rw [classes_len hok]; exact names_num hok
      have hcw : ∀ x ∈ classesM t, x.length ≤ 6 := fun x hx => (class_up hok hx).2.2
      have hcf : ∀ set : List Int, CallP Tryz.prog 57 [tabV (classesM t), .fn 58 [] [.ipt (ints set) 0]] (bv ((classesM t).contains set)) := by
        intro set
        have := containsFuncW_c (classesM t) (by simp only [big]; omega) 58 [.ipt (ints set) 0] (fun x => decide (x = set)) (fun x hx => check1_c x set (by have := hcw x hx; simp only [big]; omega)) (by simp) (by simp) (by simp)
        have e : ((classesM t).any fun x => decide (x = set)) = (classesM t).contains set := by
          rw [Bool.eq_iff_iff, List.any_eq_true, List.contains_iff_mem]
          constructor
          · rintro ⟨x, hx, e⟩; rw [decide_eq_true_eq] at e; rw [← e]; exact hx
          · intro h; exact ⟨set, h, by simp⟩
        rwa [e] at this
      unfold lineV at hlo
      generalize hR : (if f.all (fun s => (classesM t).contains s) then (0 : Int) else 7) = R
      generalize classesM t = C at *
      generalize t.flatten = L at *
      generalize rowsF 0 t = RR at *
      generalize isOrdB L n = b at *
      simp [A17]
      try simp 
      repeat' (first
        | (refine CallX.pure (hv) (by simp) (by simp) ?_; try simp )
        | (refine CallK.intro (hv) (by simp) (by simp) ?_; try simp )
        | (refine CallG.intro (fun _ => hv) (by simp) (by simp) ?_; try simp )
        | ((with_reducible refine PreK.intro ?_ ?_); (next => (first | omega | (intros; first | omega | (refine ⟨by omega, ?_⟩; repeat (first | assumption | constructor)) | assumption))); intro _; try simp )
        | fail)
      refine CondK.ff ?_
      try simp 
      repeat (refine PreK.intro (by first | omega | (intros; first | omega | (refine ⟨by omega, ?_⟩; simp_all; done) | (simp_all; done) | (simp_all; omega))) fun _ => ?_; (try simp ))
      try simp 
      repeat' (first
        | (refine CallX.pure (hw) (by simp) (by simp) ?_; try simp )
        | (refine CallK.intro (hw) (by simp) (by simp) ?_; try simp )
        | (refine CallG.intro (fun _ => hw) (by simp) (by simp) ?_; try simp )
        | ((with_reducible refine PreK.intro ?_ ?_); (next => (first | omega | (intros; first | omega | (refine ⟨by omega, ?_⟩; repeat (first | assumption | constructor)) | assumption))); intro _; try simp )
        | fail)
      refine CondK.ff ?_
      try simp 
      repeat (refine PreK.intro (by first | omega | (intros; first | omega | (refine ⟨by omega, ?_⟩; simp_all; done) | (simp_all; done) | (simp_all; omega))) fun _ => ?_; (try simp ))
      try simp 
      repeat' (first
        | (refine CallX.pure (hlo) (by simp) (by simp) ?_; try simp )
        | (refine CallK.intro (hlo) (by simp) (by simp) ?_; try simp )
        | (refine CallG.intro (fun _ => hlo) (by simp) (by simp) ?_; try simp )
        | ((with_reducible refine PreK.intro ?_ ?_); (next => (first | omega | (intros; first | omega | (refine ⟨by omega, ?_⟩; repeat (first | assumption | constructor)) | assumption))); intro _; try simp )
        | fail)
      repeat (refine PreK.intro (by first | omega | (intros; first | omega | (refine ⟨by omega, ?_⟩; simp_all; done) | (simp_all; done) | (simp_all; omega))) fun _ => ?_; (try simp ))
      try simp 
      repeat' (first
        | (refine CallX.pure (hio) (by simp) (by simp) ?_; try simp )
        | (refine CallK.intro (hio) (by simp) (by simp) ?_; try simp )
        | (refine CallG.intro (fun _ => hio) (by simp) (by simp) ?_; try simp )
        | ((with_reducible refine PreK.intro ?_ ?_); (next => (first | omega | (intros; first | omega | (refine ⟨by omega, ?_⟩; repeat (first | assumption | constructor)) | assumption))); intro _; try simp )
        | fail)
      cases b with
      | false =>
        refine CondK.tt ?_
        try simp 
        repeat (refine PreK.intro (by first | omega | (intros; first | omega | (refine ⟨by omega, ?_⟩; simp_all; done) | (simp_all; done) | (simp_all; omega))) fun _ => ?_; (try simp ))
      | true =>
        refine CondK.ff ?_
        try simp 
        repeat (refine PreK.intro (by first | omega | (intros; first | omega | (refine ⟨by omega, ?_⟩; simp_all; done) | (simp_all; done) | (simp_all; omega))) fun _ => ?_; (try simp ))
        try simp 
        repeat' (first
          | (refine CallX.pure (hcl) (by simp) (by simp) ?_; try simp )
          | (refine CallK.intro (hcl) (by simp) (by simp) ?_; try simp )
          | (refine CallG.intro (fun _ => hcl) (by simp) (by simp) ?_; try simp )
          | ((with_reducible refine PreK.intro ?_ ?_); (next => (first | omega | (intros; first | omega | (refine ⟨by omega, ?_⟩; repeat (first | assumption | constructor)) | assumption))); intro _; try simp )
          | fail)
        refine LoopK.by (fun i : Nat => ⟨[(33, iv i), (32, iv f.length), (31, tabV f), (9, tabV C)], []⟩) (fun i => f.length - i) (fun i => i ≤ f.length ∧ (if (f.drop i).all (fun s => C.contains s) then (0 : Int) else 7) = R) 0 (by simpa using hR) (by simp) ?_
        intro i Q' ⟨hi, hc⟩ hq he hr
        try simp 
        refine CondK.intro (fun h2 => ?_) (fun h2 => ?_)
        · simp at h2
          have hcf1 := hcf (el f i)
          rw [drop_cons f i h2, List.all_cons] at hc
          generalize C.contains (el f i) = c at hcf1 hc
          try simp [h2]
          repeat (refine PreK.intro (by first | omega | (intros; first | omega | (refine ⟨by omega, ?_⟩; simp_all; done) | (simp_all; done) | (simp_all; omega))) fun _ => ?_; (try simp [h2]))
          refine CallX.frz 11 (b := ⟨1, [ints (el f i)], 1, true⟩) (by simp) (by simp) ?_
          try simp 
          refine CallX.pure (by simpa using hcf1) (by simp) (by simp) ?_
          try simp 
          cases c with
          | false =>
            simp only [Bool.false_and, Bool.false_eq_true, if_false] at hc
            refine CondK.tt ?_
            try simp 
            apply hr
            simp [hc]
          | true =>
            simp only [Bool.true_and] at hc
            refine CondK.ff ?_
            try simp 
            repeat (refine PreK.intro (by first | omega | (intros; first | omega | (refine ⟨by omega, ?_⟩; simp_all; done) | (simp_all; done) | (simp_all; omega))) fun _ => ?_; (try simp ))
            exact hq (i + 1) _ ⟨by omega, hc⟩ (by omega) (by simp)
        · simp at h2
          rw [List.drop_eq_nil_of_le (by omega)] at hc
          simp only [List.all_nil, if_true] at hc
          try simp 
          apply he
          simp [hc]
    · rw [if_pos h1]
      generalize tabErr t = e at *
      simp [A17]
      try simp 
      repeat' (first
        | (refine CallX.pure (hv) (by simp) (by simp) ?_; try simp )
        | (refine CallK.intro (hv) (by simp) (by simp) ?_; try simp )
        | (refine CallG.intro (fun _ => hv) (by simp) (by simp) ?_; try simp )
        | ((with_reducible refine PreK.intro ?_ ?_); (next => (first | omega | (intros; first | omega | (refine ⟨by omega, ?_⟩; repeat (first | assumption | constructor)) | assumption))); intro _; try simp )
        | fail)
      refine CondK.ff ?_
      try simp 
      repeat (refine PreK.intro (by first | omega | (intros; first | omega | (refine ⟨by omega, ?_⟩; simp_all; done) | (simp_all; done) | (simp_all; omega))) fun _ => ?_; (try simp ))
      try simp 
      repeat' (first
        | (refine CallX.pure (hw) (by simp) (by simp) ?_; try simp )
        | (refine CallK.intro (hw) (by simp) (by simp) ?_; try simp )
        | (refine CallG.intro (fun _ => hw) (by simp) (by simp) ?_; try simp )
        | ((with_reducible refine PreK.intro ?_ ?_); (next => (first | omega | (intros; first | omega | (refine ⟨by omega, ?_⟩; repeat (first | assumption | constructor)) | assumption))); intro _; try simp )
        | fail)
      refine CondK.intro (fun h2 => ?_) (fun h2 => ?_)
      · repeat (refine PreK.intro (by first | omega | (intros; first | omega | (refine ⟨by omega, ?_⟩; simp_all; done) | (simp_all; done) | (simp_all; omega))) fun _ => ?_; (try simp ))
      · simp at h2
        exact absurd h2 h1
  · rw [if_pos h0]
    generalize famErr n f = e at *
    simp [A17]
    try simp 
    repeat' (first
      | (refine CallX.pure (hv) (by simp) (by simp) ?_; try simp )
      | (refine CallK.intro (hv) (by simp) (by simp) ?_; try simp )
      | (refine CallG.intro (fun _ => hv) (by simp) (by simp) ?_; try simp )
      | ((with_reducible refine PreK.intro ?_ ?_); (next => (first | omega | (intros; first | omega | (refine ⟨by omega, ?_⟩; repeat (first | assumption | constructor)) | assumption))); intro _; try simp )
      | fail)
    refine CondK.intro (fun h1 => ?_) (fun h1 => ?_)
    · repeat (refine PreK.intro (by first | omega | (intros; first | omega | (refine ⟨by omega, ?_⟩; simp_all; done) | (simp_all; done) | (simp_all; omega))) fun _ => ?_; (try simp ))
    · simp at h1
      exact absurd h1 h0
/-! ### the table that is made -/
def TableE (n : Int) (f : List (List Int)) : List (List Int) × Bool × Int := if famErr n f ≠ 0 then ([], false, famErr n f) else if (bestF f n.toNat).1 = [] then ([], false, 0) else (cutM (bestF f n.toNat).1 0 (bestF f n.toNat).2, true, 0)
theorem Table_c (n : Int) (f : List (List Int)) (hs : Sm f) : CallP Tryz.prog 19 [iv n, tabV f] (.tup [tabV (TableE n f).1, bv (TableE n f).2.1, iv (TableE n f).2.2]) := by
  refine C19 (by simp) ?_
  have hv := ValidateFamily_c n f hs
  unfold TableE
  by_cases h0 : famErr n f = 0
  · obtain ⟨k, rfl, hf⟩ := famErr_zero h0
    have hb := best_c f k hf
    have hok := (best_ok hf.lo f).ok
    rw [if_neg (by simpa using h0)]
    rw [h0] at hv
    rw [Int.toNat_natCast]
    by_cases h1 : (bestF f k).1 = []
    · rw [if_pos h1]
      generalize bestF f k = B at *
      obtain ⟨o, l⟩ := B
      dsimp only at *
      subst h1
      simp [A19]
      try simp 
      repeat' (first
        | (refine CallX.pure (hv) (by simp) (by simp) ?_; try simp )
        | (refine CallK.intro (hv) (by simp) (by simp) ?_; try simp )
        | (refine CallG.intro (fun _ => hv) (by simp) (by simp) ?_; try simp )
        | ((with_reducible refine PreK.intro ?_ ?_); (next => (first | omega | (intros; first | omega | (refine ⟨by omega, ?_⟩; repeat (first | assumption | constructor)) | assumption))); intro _; try simp )
        | fail)
      refine CondK.ff ?_
      try simp 
      repeat (refine PreK.intro (by first | omega | (intros; first | omega | (refine ⟨by omega, ?_⟩; simp_all; done) | (simp_all; done) | (simp_all; omega))) fun _ => ?_; (try simp ))
      refine CallX.pure (by simpa using hb) (by simp) (by simp) ?_
      try simp 
      repeat (refine PreK.intro (by first | omega | (intros; first | omega | (refine ⟨by omega, ?_⟩; simp_all; done) | (simp_all; done) | (simp_all; omega))) fun _ => ?_; (try simp ))
      refine CondK.tt ?_
      try simp 
      repeat (refine PreK.intro (by first | omega | (intros; first | omega | (refine ⟨by omega, ?_⟩; simp_all; done) | (simp_all; done) | (simp_all; omega))) fun _ => ?_; (try simp ))
    · rw [if_neg h1]
      obtain ⟨g1, g2, g3⟩ := hok h1
      have hcut := cutOK_marks hf g1
      rw [← g3] at hcut
      generalize bestF f k = B at *
      obtain ⟨o, l⟩ := B
      dsimp only at *
      clear g2 g3
      have hol := g1.len
      have hhi := hf.hi
      have hup := hcut.up
      have hval := hcut.val
      generalize hR : cutM o 0 l = R
      simp [A19]
      try simp 
      repeat' (first
        | (refine CallX.pure (hv) (by simp) (by simp) ?_; try simp )
        | (refine CallK.intro (hv) (by simp) (by simp) ?_; try simp )
        | (refine CallG.intro (fun _ => hv) (by simp) (by simp) ?_; try simp )
        | ((with_reducible refine PreK.intro ?_ ?_); (next => (first | omega | (intros; first | omega | (refine ⟨by omega, ?_⟩; repeat (first | assumption | constructor)) | assumption))); intro _; try simp )
        | fail)
      refine CondK.ff ?_
      try simp 
      repeat (refine PreK.intro (by first | omega | (intros; first | omega | (refine ⟨by omega, ?_⟩; simp_all; done) | (simp_all; done) | (simp_all; omega))) fun _ => ?_; (try simp ))
      refine CallX.pure (by simpa using hb) (by simp) (by simp) ?_
      try simp [h1]
      repeat (refine PreK.intro (by first | omega | (intros; first | omega | (refine ⟨by omega, ?_⟩; simp_all; done) | (simp_all; done) | (simp_all; omega))) fun _ => ?_; (try simp [h1]))
      refine CondK.ff ?_
      try simp 
      repeat (refine PreK.intro (by first | omega | (intros; first | omega | (refine ⟨by omega, ?_⟩; simp_all; done) | (simp_all; done) | (simp_all; omega))) fun _ => ?_; (try simp ))
      refine LoopK.by (ι := Nat × Nat × Nat × List (List Int)) (fun x => ⟨[(32, iv x.1), (31, iv l.length), (30, ints l), (12, iv x.2.1), (11, .sl 11 x.2.2.1 0 x.2.2.2.length), (8, ints o)], [(11, some ⟨1, x.2.2.2.map ints, x.2.2.1, false⟩)]⟩) (fun x => l.length - x.1)
        (fun x => x.1 ≤ l.length ∧ x.2.1 ≤ o.length ∧ (∀ e ∈ l.drop x.1, (x.2.1 : Int) ≤ e) ∧ x.2.2.2 ++ cutM o x.2.1 (l.drop x.1) = R) (0, 0, 1, []) ⟨Nat.zero_le _, Nat.zero_le _, fun e he => by have := hval e (by simpa using he); dsimp only; omega, by simpa using hR⟩ (by simp) ?_
      intro ⟨i, fr, ver, acc⟩ Q' ⟨hi, hfr, hlo, hc⟩ hq he hr
      dsimp only at hi hfr hlo hc
      have hlen := congrArg List.length hc
      have hRl : R.length = l.length := by rw [← hR, cut_len]
      have hl6 : l.length ≤ 6 := by
        have h1 := nodup_le (pairwise_lt_nodup hup) fun x hx => mem_ids.2 (hval x hx)
        rw [ids_len] at h1
        omega
      simp only [List.length_append] at hlen
      try simp 
      refine CondK.intro (fun h2 => ?_) (fun h2 => ?_)
      · simp at h2
        rw [drop_cons l i h2] at hlo hc
        have hev := hval _ (el_mem_of l i h2)
        have hef := hlo (el l i) (by simp)
        obtain ⟨e, hee⟩ : ∃ e : Nat, el l i = (e : Int) := ⟨(el l i).toNat, by omega⟩
        rw [cutM, hee, Int.toNat_natCast] at hc
        rw [hee] at hev hef
        have hclo := clone_k false ((o.take (e + 1)).drop fr) (by simp; omega)
        have hgd : List.drop fr (List.take (e + 1) (List.map iv o)) = List.map iv ((o.take (e + 1)).drop fr) := by simp [List.map_drop, List.map_take]
        have hnat : ((e : Int) + 1).toNat = e + 1 := by omega
        have hgl : ((o.take (e + 1)).drop fr).length = e + 1 - fr := by simp; omega
        have hnext : ∀ x ∈ l.drop (i + 1), ((e + 1 : Nat) : Int) ≤ x := by
          intro x hx
          have h3 : (l.drop i).Pairwise (· < ·) := List.Pairwise.sublist (List.drop_sublist _ _) hup
          rw [drop_cons l i h2, List.pairwise_cons] at h3
          have := h3.1 x hx
          omega
        generalize (o.take (e + 1)).drop fr = G at *
        have htk : List.take (e + 1 - fr) (List.map iv G) = List.map iv G := List.take_of_length_le (by simp [hgl])
        try simp [h2, hee, hnat]
        repeat (refine PreK.intro (by first | omega | (intros; first | omega | (refine ⟨by omega, ?_⟩; simp_all; done) | (simp_all; done) | (simp_all; omega))) fun _ => ?_; (try simp [h2, hee, hnat]))
        refine CallX.own (by simpa [hgd, hnat] using hclo) (by simp) (by simp) ?_
        try simp [h2, hee, hnat, hgl]
        repeat (refine PreK.intro (by first | omega | (intros; first | omega | (refine ⟨by omega, ?_⟩; simp_all; done) | (simp_all; done) | (simp_all; omega))) fun _ => ?_; (try simp [h2, hee, hnat, hgl]))
        exact hq (i + 1, e + 1, ver + 1, acc ++ [G]) _ ⟨by dsimp only; omega, by dsimp only; omega, hnext, by simpa using hc⟩ (by dsimp only; omega) (by simp [htk])
      · simp at h2
        rw [List.drop_eq_nil_of_le (by omega), cutM, List.append_nil] at hc
        subst hc
        try simp 
        apply he
        repeat (refine PreK.intro (by first | omega | (intros; first | omega | (refine ⟨by omega, ?_⟩; simp_all; done) | (simp_all; done) | (simp_all; omega))) fun _ => ?_; (try simp ))
  · rw [if_pos h0]
    generalize famErr n f = e at *
    simp [A19]
    try simp 
    repeat' (first
      | (refine CallX.pure (hv) (by simp) (by simp) ?_; try simp )
      | (refine CallK.intro (hv) (by simp) (by simp) ?_; try simp )
      | (refine CallG.intro (fun _ => hv) (by simp) (by simp) ?_; try simp )
      | ((with_reducible refine PreK.intro ?_ ?_); (next => (first | omega | (intros; first | omega | (refine ⟨by omega, ?_⟩; repeat (first | assumption | constructor)) | assumption))); intro _; try simp )
      | fail)
    refine CondK.intro (fun h1 => ?_) (fun h1 => ?_)
    · repeat (refine PreK.intro (by first | omega | (intros; first | omega | (refine ⟨by omega, ?_⟩; simp_all; done) | (simp_all; done) | (simp_all; omega))) fun _ => ?_; (try simp ))
    · simp at h1
      exact absurd h1 h0
theorem cut_sm {n : Nat} {o l : List Int} (h : CutOK n o l) : Sm (cutM o 0 l) ∧ longT (cutM o 0 l) = false := by
  have h1 := tab_sm h.tab
  refine ⟨h1, ?_⟩
  unfold longT
  have h2 := h1.num
  simp only [Bool.or_eq_false_iff, decide_eq_false_iff_not, List.any_eq_false, decide_eq_true_eq]
  exact ⟨by omega, fun r hr => by have := h1.row r hr; omega⟩
theorem makes_law (n : Int) (f : List (List Int)) : (TableE n f).2.2 = (FewE n f).2.2 ∧ (TableE n f).2.1 = (FewE n f).2.1 ∧ ((TableE n f).2.1 = false → (TableE n f).1 = []) ∧
    ((TableE n f).2.1 = true → longT (TableE n f).1 = false ∧ Sm (TableE n f).1 ∧ checkT n f (TableE n f).1 = 0 ∧ ((TableE n f).1.length : Int) = (FewE n f).1) := by
  unfold TableE FewE
  by_cases h0 : famErr n f = 0
  · obtain ⟨k, rfl, hf⟩ := famErr_zero h0
    have hok := best_ok hf.lo f
    have e0 : ¬ famErr (k : Int) f ≠ 0 := by simpa using h0
    rw [if_neg e0, if_neg e0, Int.toNat_natCast]
    by_cases h1 : (bestF f k).1 = []
    · rw [if_pos h1]
      have : fewM f k = 0 := hok.nil.1 h1
      rw [this]
      exact ⟨rfl, rfl, fun _ => rfl, fun h => by cases h⟩
    · rw [if_neg h1]
      obtain ⟨g1, g2, g3⟩ := hok.ok h1
      have hcut := cutOK_marks hf g1
      have hne : fewM f k ≠ 0 := fun h => h1 (hok.nil.2 h)
      have hfew := hok.few
      have hpos : decide (0 < fewM f k) = true := by rw [decide_eq_true_eq]; omega
      rw [hpos]
      refine ⟨rfl, rfl, (fun h => by cases h), fun _ => ?_⟩
      dsimp only
      rw [g3]
      obtain ⟨s1, s2⟩ := cut_sm hcut
      refine ⟨s2, s1, check_marks hf g1 g2, ?_⟩
      rw [cut_len, ← g3, hfew]
  · rw [if_pos h0, if_pos h0]
    exact ⟨rfl, rfl, fun _ => rfl, fun h => by cases h⟩
end Go.Proofs.YtgfgkfkplidncaaGreat
end

section
/- Contracts: an order cut where sets end; the statement TopSounds. -/
namespace Go.Proofs.YtgfgkfkplidncaaGreat
open Go.Abs Go
set_option maxRecDepth 20000
set_option maxHeartbeats 2000000
attribute [local irreducible] PreK CondK CallK CallG CallX LoopK
attribute [local simp] avsEq avEq akind teq vkind vEq

/-! ### plain: where an order is cut -/
def cntS (s l : List Int) : Nat := (l.filter fun x => s.contains x).length
def lastB (o : List Int) (i : Nat) (s : List Int) : Bool := s.contains (el o i) && decide ((s.length : Int) - cntS s (o.take (i + 1)) = 0)
def cutB (o : List Int) (f : List (List Int)) (i : Nat) : Bool := decide ((i : Int) = (o.length : Int) - 1) || f.any (lastB o i)
def markL (o : List Int) (f : List (List Int)) (i : Nat) : List Int := ((List.range' i (o.length - i)).filter (cutB o f)).map fun j : Nat => (j : Int)
theorem cntS_step {s o : List Int} {i : Nat} (h : i < o.length) : cntS s (o.take (i + 1)) = cntS s (o.take i) + (if s.contains (el o i) then 1 else 0) := by
  unfold cntS
  rw [take_succ o i h, List.filter_append, List.length_append]
  congr 1
  by_cases h : s.contains (el o i) = true
  · rw [if_pos h, List.filter_cons_of_pos h]; rfl
  · rw [if_neg h, List.filter_cons_of_neg h]; rfl
theorem cntS_all {n : Nat} {o s : List Int} (ho : OrdOK n o) (hu : s.Pairwise (· < ·)) (hv : ∀ x ∈ s, 0 ≤ x ∧ x < n) : cntS s o = s.length := by
  unfold cntS
  refine (perm_of_mem (List.Nodup.sublist List.filter_sublist ho.nd) (pairwise_lt_nodup hu) fun x => ?_).length_eq
  rw [List.mem_filter, List.contains_iff_mem, ho.mem]
  exact ⟨fun h => h.2, fun h => ⟨hv x h, h⟩⟩
theorem lastB_iff {n : Nat} {o s : List Int} (ho : OrdOK n o) (h0 : s ≠ []) (hu : s.Pairwise (· < ·)) (hv : ∀ x ∈ s, 0 ≤ x ∧ x < n) {i : Nat} (hi : i < o.length) : lastB o i s = true ↔ (edges o s).2 = i := by
  have he := edges_ok ho h0 hv
  have hall := cntS_all ho hu hv
  have hsp : cntS s o = cntS s (o.take (i + 1)) + cntS s (o.drop (i + 1)) := by
    unfold cntS
    rw [← List.length_append, ← List.filter_append, List.take_append_drop]
  obtain ⟨j, hj, ej⟩ := he.lst
  unfold lastB
  simp only [Bool.and_eq_true, decide_eq_true_eq, List.contains_iff_mem]
  constructor
  · rintro ⟨h1, h2⟩
    have h3 : cntS s (o.drop (i + 1)) = 0 := by omega
    have h4 : ((o.drop (i + 1)).filter fun x => s.contains x) = [] := List.eq_nil_of_length_eq_zero h3
    have h5 := (he.all i ⟨hi, h1⟩).2
    rw [ej] at h5 ⊢
    apply Classical.byContradiction
    intro hne
    have hlt : i + 1 ≤ j := by omega
    have hm : el o j ∈ o.drop (i + 1) := by
      have : (o.drop (i + 1))[j - (i + 1)]? = some (el o j) := by
        rw [List.getElem?_drop, show i + 1 + (j - (i + 1)) = j by omega]
        simp [el, List.getD_eq_getElem?_getD, hj.1]
      exact List.mem_of_getElem? this
    have := List.filter_eq_nil_iff.1 h4 _ hm
    rw [List.contains_iff_mem] at this
    exact this hj.2
  · intro h
    have hij : i = j := by omega
    subst hij
    refine ⟨hj.2, ?_⟩
    have h4 : ((o.drop (i + 1)).filter fun x => s.contains x) = [] := by
      rw [List.filter_eq_nil_iff]
      intro x hx hc
      rw [List.contains_iff_mem] at hc
      obtain ⟨k, hk, e⟩ := List.getElem_of_mem hx
      rw [List.length_drop] at hk
      have hel : el o (i + 1 + k) = x := by
        rw [el_eq o (i + 1 + k) (by omega), ← e, List.getElem_drop]
      have := (he.all (i + 1 + k) ⟨by omega, by rw [hel]; exact hc⟩).2
      omega
    have h5 : cntS s (o.drop (i + 1)) = 0 := by unfold cntS; rw [h4]; rfl
    omega
theorem markL_zero {n : Nat} {o : List Int} {f : List (List Int)} (ho : OrdOK n o) (hf : FamOK n f) : markL o f 0 = marksM o f := by
  obtain ⟨m1, m2⟩ := marks_spec o f
  refine up_eq ?_ m1 fun x => ?_
  · unfold markL
    rw [List.pairwise_map]
    refine List.Pairwise.sublist List.filter_sublist ((List.pairwise_lt_range' (s := 0) (n := o.length - 0)).imp fun {a b} h => ?_)
    omega
  · rw [m2]
    unfold markL
    rw [List.mem_map]
    constructor
    · rintro ⟨j, hj, rfl⟩
      rw [List.mem_filter, List.mem_range'_1] at hj
      obtain ⟨hj1, hj2⟩ := hj
      unfold cutB at hj2
      rw [Bool.or_eq_true, decide_eq_true_eq, List.any_eq_true] at hj2
      rcases hj2 with h | ⟨s, hs, h⟩
      · exact .inr h
      · exact .inl ⟨s, hs, (lastB_iff ho (hf.ne s hs) (hf.up s hs) (hf.val s hs) (by omega)).1 h⟩
    · intro h
      have hlen : 1 ≤ o.length := by rw [ho.len]; exact hf.lo
      rcases h with ⟨s, hs, rfl⟩ | rfl
      · obtain ⟨j, hj, ej⟩ := (edges_ok ho (hf.ne s hs) (hf.val s hs)).lst
        have hjl := hj.1
        refine ⟨j, ?_, ej.symm⟩
        rw [List.mem_filter, List.mem_range'_1]
        refine ⟨by omega, ?_⟩
        unfold cutB
        rw [Bool.or_eq_true, List.any_eq_true]
        exact .inr ⟨s, hs, (lastB_iff ho (hf.ne s hs) (hf.up s hs) (hf.val s hs) hjl).2 ej⟩
      · refine ⟨o.length - 1, ?_, by omega⟩
        rw [List.mem_filter, List.mem_range'_1]
        refine ⟨by omega, ?_⟩
        unfold cutB
        rw [Bool.or_eq_true, decide_eq_true_eq]
        exact .inl (by omega)
theorem markL_step {o : List Int} {f : List (List Int)} {i : Nat} (h : i < o.length) : markL o f i = if cutB o f i then (i : Int) :: markL o f (i + 1) else markL o f (i + 1) := by
  unfold markL
  rw [show o.length - i = (o.length - (i + 1)) + 1 by omega, List.range'_succ, List.filter_cons]
  split
  · rw [List.map_cons]
  · rfl
theorem el_setZ (o : List Int) (i k : Nat) (v : Int) (hi : i < o.length) : el (o.set i v) k = if i = k then v else el o k := by
  unfold el
  rw [List.getD_eq_getElem?_getD, List.getD_eq_getElem?_getD, List.getElem?_set]
  by_cases h : i = k
  · subst h; simp [hi]
  · simp [h]
theorem cut_c (f : List (List Int)) (o : List Int) (n : Nat) (hf : FamOK n f) (ho : OrdOK n o) : CallP Tryz.prog 39 [ints o, tabV f] (tabV (cutM o 0 (marksM o f))) := by
  refine C39 (by simp) ?_
  have hfn := hf.num
  have hhi := hf.hi
  have hol := ho.len
  have hfs := fam_sm hf
  rw [← markL_zero ho hf]
  generalize hR : cutM o 0 (markL o f 0) = R
  simp [A39]
  repeat (refine PreK.intro (by first | omega | (intros; first | omega | (refine ⟨by omega, ?_⟩; simp_all; done) | (simp_all; done) | (simp_all; omega))) fun _ => ?_; (try simp ))
  refine LoopK.by (ι := Nat × List Int) (fun x => ⟨[(8, iv x.1), (7, .sl 14 1 0 f.length), (6, .sl 6 1 0 0), (5, .sl 5 1 0 0), (0, ints o), (1, tabV f)], [(14, some ⟨1, x.2.map iv, 1, false⟩), (6, some ⟨1, [], 1, false⟩), (5, some ⟨1, [], 1, false⟩)]⟩) (fun x => f.length - x.1)
    (fun x => x.1 ≤ f.length ∧ x.2.length = f.length ∧ ∀ k, k < x.1 → el x.2 k = (el f k).length) (0, List.replicate f.length 0) ⟨Nat.zero_le _, by simp, fun k hk => absurd hk (Nat.not_lt_zero k)⟩ (by simp) ?_
  intro ⟨i, L⟩ Q' ⟨hi, hLl, hL⟩ hq he hr
  dsimp only at hi hLl hL
  try simp 
  refine CondK.intro (fun h1 => ?_) (fun h1 => ?_)
  · simp at h1
    have hil : i < L.length := by omega
    try simp [h1, hil, hLl]
    repeat (refine PreK.intro (by first | omega | (intros; first | omega | (refine ⟨by omega, ?_⟩; simp_all; done) | (simp_all; done) | (simp_all; omega))) fun _ => ?_; (try simp [h1, hil, hLl]))
    refine hq (i + 1, L.set i (el f i).length) _ ⟨by dsimp only; omega, by simpa using hLl, fun k hk => ?_⟩ (by dsimp only; omega) (by simp [List.map_set])
    dsimp only at hk ⊢
    rw [el_setZ _ _ _ _ hil]
    by_cases e : i = k
    · rw [if_pos e, e]
    · rw [if_neg e]; exact hL k (by omega)
  · simp at h1
    have : i = f.length := by omega
    subst this
    try simp 
    apply he
    clear hq he hr
    repeat (refine PreK.intro (by first | omega | (intros; first | omega | (refine ⟨by omega, ?_⟩; simp_all; done) | (simp_all; done) | (simp_all; omega))) fun _ => ?_; (try simp ))
    refine LoopK.by (ι := Nat × Nat × List Int × Nat × Nat × List (List Int)) (fun x => ⟨[(9, iv x.1), (7, .sl 14 1 0 f.length), (6, .sl 6 x.2.2.2.1 0 (x.1 - x.2.1)), (5, .sl 5 x.2.2.2.2.1 0 x.2.2.2.2.2.length), (0, ints o), (1, tabV f)], [(14, some ⟨1, x.2.2.1.map iv, 1, false⟩), (6, some ⟨1, ((o.take x.1).drop x.2.1).map iv, x.2.2.2.1, false⟩), (5, some ⟨1, x.2.2.2.2.2.map ints, x.2.2.2.2.1, false⟩)]⟩) (fun x => o.length - x.1)
      (fun x => x.1 ≤ o.length ∧ x.2.1 ≤ x.1 ∧ x.2.2.1.length = f.length ∧ (∀ k, k < f.length → el x.2.2.1 k = ((el f k).length : Int) - cntS (el f k) (o.take x.1)) ∧ x.2.2.2.2.2.length ≤ x.1 ∧ x.2.2.2.2.2 ++ cutM o x.2.1 (markL o f x.1) = R) (0, 0, L, 1, 1, []) ⟨Nat.zero_le _, Nat.zero_le _, hLl, fun k hk => by rw [hL k hk]; simp [cntS], by simp, by simpa using hR⟩ (by simp) ?_
    intro ⟨i, fr, L, v6, v5, out⟩ Q' ⟨hi, hfr, hLl, hL, hout, hc⟩ hq he hr
    dsimp only at hi hfr hLl hL hout hc
    have hrl : ((o.take i).drop fr).length = i - fr := by simp; omega
    try simp 
    refine CondK.intro (fun h2 => ?_) (fun h2 => ?_)
    · simp at h2
      rw [markL_step h2] at hc
      have hrow : (o.take (i + 1)).drop fr = (o.take i).drop fr ++ [el o i] := by
        rw [take_succ o i h2, List.drop_append_of_le_length (by rw [List.length_take]; omega)]
      have hrw2 : List.map iv ((o.take (i + 1)).drop fr) = List.drop fr (List.take i (List.map iv o)) ++ [iv (el o i)] := by
        rw [hrow, List.map_append, List.map_drop, List.map_take]; rfl
      have hli : (List.drop fr (List.take i (List.map iv o))).length = i - fr := by simp; omega
      have htk : List.take (i - fr) (List.drop fr (List.take i (List.map iv o))) = List.drop fr (List.take i (List.map iv o)) := List.take_of_length_le (by omega)
      generalize hB : cutB o f i = B at hc
      unfold cutB at hB
      try simp [h2, hrl]
      repeat (refine PreK.intro (by first | omega | (intros; first | omega | (refine ⟨by omega, ?_⟩; simp_all; done) | (simp_all; done) | (simp_all; omega))) fun _ => ?_; (try simp [h2, hrl]))
      refine LoopK.by (ι := Nat × Bool × List Int) (fun x => ⟨[(11, iv x.1), (10, bv x.2.1), (9, iv i), (7, .sl 14 1 0 f.length), (6, .sl 6 (v6 + 1) 0 (i - fr + 1)), (5, .sl 5 v5 0 out.length), (0, ints o), (1, tabV f)], [(14, some ⟨1, x.2.2.map iv, 1, false⟩), (6, some ⟨1, ((o.take (i + 1)).drop fr).map iv, v6 + 1, false⟩), (5, some ⟨1, out.map ints, v5, false⟩)]⟩) (fun x => f.length - x.1)
        (fun x => x.1 ≤ f.length ∧ x.2.2.length = f.length ∧ (∀ k, k < f.length → el x.2.2 k = ((el f k).length : Int) - cntS (el f k) (o.take (if k < x.1 then i + 1 else i))) ∧ (x.2.1 || (f.drop x.1).any (lastB o i)) = B) (0, decide ((i : Int) = (o.length : Int) - 1), L) ⟨Nat.zero_le _, hLl, fun k hk => by simpa using hL k hk, by simpa using hB⟩ (by simp [hrw2, hrl, hli, htk]) ?_
      intro ⟨k, en, L2⟩ Q2 ⟨hk, hL2l, hL2, hc2⟩ hq2 he2 hr2
      dsimp only at hk hL2l hL2 hc2
      try simp 
      refine CondK.intro (fun h3 => ?_) (fun h3 => ?_)
      · simp at h3
        have hkl : k < L2.length := by omega
        have hns : ∀ v : AV, nth ((List.map iv L2).set k v) k = v := fun v => by simp [nth, List.getD_eq_getElem?_getD, hkl]
        have hel := hL2 k h3
        rw [if_neg (Nat.lt_irrefl k)] at hel
        have hstep := cntS_step (s := el f k) h2
        have hcn : cntS (el f k) (o.take i) ≤ 6 := by
          unfold cntS
          have h1 := List.length_filter_le (fun x => (el f k).contains x) (o.take i)
          have h2 : (o.take i).length ≤ o.length := by rw [List.length_take]; omega
          omega
        have hfl := hfs.el k
        have hh := has1_c (el f k) (el o i) (sbig (by omega))
        rw [drop_cons f k h3, List.any_cons] at hc2
        rw [show lastB o i (el f k) = ((el f k).contains (el o i) && decide (((el f k).length : Int) - cntS (el f k) (o.take (i + 1)) = 0)) from rfl] at hc2
        have hnext : ∀ v : Int, v = ((el f k).length : Int) - cntS (el f k) (o.take (i + 1)) → ∀ j, j < f.length → el (L2.set k v) j = ((el f j).length : Int) - cntS (el f j) (o.take (if j < k + 1 then i + 1 else i)) := by
          intro v hv j hj
          rw [el_setZ _ _ _ _ hkl]
          by_cases e : k = j
          · subst e
            rw [if_pos rfl, if_pos (by omega), hv]
          · rw [if_neg e, hL2 j hj]
            by_cases e2 : j < k
            · rw [if_pos e2, if_pos (by omega)]
            · rw [if_neg e2, if_neg (by omega)]
        have hsame : cntS (el f k) (o.take (i + 1)) = cntS (el f k) (o.take i) → ∀ j, j < f.length → el L2 j = ((el f j).length : Int) - cntS (el f j) (o.take (if j < k + 1 then i + 1 else i)) := by
          intro hv j hj
          rw [hL2 j hj]
          by_cases e : k = j
          · subst e
            rw [if_neg (Nat.lt_irrefl k), if_pos (by omega), hv]
          · by_cases e2 : j < k
            · rw [if_pos e2, if_pos (by omega)]
            · rw [if_neg e2, if_neg (by omega)]
        generalize (el f k).contains (el o i) = c at hh hc2 hstep
        generalize cntS (el f k) (o.take (i + 1)) = q1 at *
        generalize cntS (el f k) (o.take i) = q0 at *
        try simp [h3, h2]
        repeat (refine PreK.intro (by first | omega | (intros; first | omega | (refine ⟨by omega, ?_⟩; simp_all; done) | (simp_all; done) | (simp_all; omega))) fun _ => ?_; (try simp [h3, h2]))
        refine CallK.intro (by simpa using hh) (by simp) (by simp) ?_
        try simp [h3, h2]
        cases c with
        | true =>
          simp only [if_true] at hstep
          simp only [Bool.true_and] at hc2
          refine CondK.tt ?_
          try simp 
          try simp [h3, h2, hkl, hL2l, hel, hns]
          repeat (refine PreK.intro (by first | omega | (intros; first | omega | (refine ⟨by omega, ?_⟩; simp_all; done) | (simp_all; done) | (simp_all; omega))) fun _ => ?_; (try simp [h3, h2, hkl, hL2l, hel, hns]))
          cases en with
          | true =>
            try simp [h3, h2, hkl, hL2l, hel, hns]
            repeat (refine PreK.intro (by first | omega | (intros; first | omega | (refine ⟨by omega, ?_⟩; simp_all; done) | (simp_all; done) | (simp_all; omega))) fun _ => ?_; (try simp [h3, h2, hkl, hL2l, hel, hns]))
            exact hq2 (k + 1, true, L2.set k (((el f k).length : Int) - q0 - 1)) _ ⟨by dsimp only; omega, by simpa using hL2l, hnext _ (by omega), by simpa using hc2⟩ (by dsimp only; omega) (by simp [List.map_set])
          | false =>
            have hz : decide (((el f k).length : Int) - q0 - 1 = 0) = decide (((el f k).length : Int) - q1 = 0) := by congr 1; apply propext; omega
            try simp [h3, h2, hkl, hL2l, hel, hns]
            repeat (refine PreK.intro (by first | omega | (intros; first | omega | (refine ⟨by omega, ?_⟩; simp_all; done) | (simp_all; done) | (simp_all; omega))) fun _ => ?_; (try simp [h3, h2, hkl, hL2l, hel, hns]))
            refine hq2 (k + 1, decide (((el f k).length : Int) - q0 - 1 = 0), L2.set k (((el f k).length : Int) - q0 - 1)) _ ⟨by dsimp only; omega, by simpa using hL2l, hnext _ (by omega), by rw [hz]; simpa using hc2⟩ (by dsimp only; omega) (by simp [List.map_set])
        | false =>
          simp only [Bool.false_eq_true, if_false] at hstep
          simp only [Bool.false_and, Bool.false_or] at hc2
          refine CondK.ff ?_
          try simp 
          repeat (refine PreK.intro (by first | omega | (intros; first | omega | (refine ⟨by omega, ?_⟩; simp_all; done) | (simp_all; done) | (simp_all; omega))) fun _ => ?_; (try simp ))
          exact hq2 (k + 1, en, L2) _ ⟨by dsimp only; omega, hL2l, hsame (by omega), hc2⟩ (by dsimp only; omega) (by simp)
      · simp at h3
        have hkf : k = f.length := by omega
        rw [List.drop_eq_nil_of_le (by omega), List.any_nil, Bool.or_false] at hc2
        subst hc2
        have hL3 : ∀ k, k < f.length → el L2 k = ((el f k).length : Int) - cntS (el f k) (o.take (i + 1)) := fun j hj => by
          rw [hL2 j hj, if_pos (by omega)]
        try simp 
        apply he2
        cases en with
        | true =>
          simp only [if_true] at hc
          rw [cutM, Int.toNat_natCast] at hc
          have hle : i - fr + 1 ≤ min (i + 1) o.length - fr := by omega
          have htk2 : List.take (i - fr + 1) (List.drop fr (List.take (i + 1) (List.map iv o))) = List.drop fr (List.take (i + 1) (List.map iv o)) := List.take_of_length_le (by simp; omega)
          try simp [hle, htk2]
          repeat (refine PreK.intro (by first | omega | (intros; first | omega | (refine ⟨by omega, ?_⟩; simp_all; done) | (simp_all; done) | (simp_all; omega))) fun _ => ?_; (try simp [hle, htk2]))
          refine CondK.tt ?_
          try simp 
          try simp [hle, htk2]
          repeat (refine PreK.intro (by first | omega | (intros; first | omega | (refine ⟨by omega, ?_⟩; simp_all; done) | (simp_all; done) | (simp_all; omega))) fun _ => ?_; (try simp [hle, htk2]))
          exact hq (i + 1, i + 1, L2, 1, v5 + 1, out ++ [(o.take (i + 1)).drop fr]) _ ⟨by dsimp only; omega, Nat.le_refl _, hL2l, hL3, by simp; omega, by simpa using hc⟩ (by dsimp only; omega) (by simp)
        | false =>
          simp only [Bool.false_eq_true, if_false] at hc
          try simp 
          repeat (refine PreK.intro (by first | omega | (intros; first | omega | (refine ⟨by omega, ?_⟩; simp_all; done) | (simp_all; done) | (simp_all; omega))) fun _ => ?_; (try simp ))
          refine CondK.ff ?_
          try simp 
          try simp 
          repeat (refine PreK.intro (by first | omega | (intros; first | omega | (refine ⟨by omega, ?_⟩; simp_all; done) | (simp_all; done) | (simp_all; omega))) fun _ => ?_; (try simp ))
          exact hq (i + 1, fr, L2, v6 + 1, v5, out) _ ⟨by dsimp only; omega, by dsimp only; omega, hL2l, hL3, by dsimp only; omega, hc⟩ (by dsimp only; omega) (by simp [show i + 1 - fr = i - fr + 1 by omega])
    · simp at h2
      have : i = o.length := by omega
      subst this
      have e0 : markL o f o.length = [] := by unfold markL; simp
      rw [e0, cutM, List.append_nil] at hc
      subst hc
      try simp 
      apply he
      repeat (refine PreK.intro (by first | omega | (intros; first | omega | (refine ⟨by omega, ?_⟩; simp_all; done) | (simp_all; done) | (simp_all; omega))) fun _ => ?_; (try simp ))
/-! ### the statement -/
theorem order_few (n : Int) (f : List (List Int)) : (OrderE n f).2.1 = (FewE n f).2.1 ∧ (OrderE n f).2.2 = (FewE n f).2.2 := by
  unfold OrderE FewE
  by_cases h0 : famErr n f = 0
  · obtain ⟨k, rfl, hf⟩ := famErr_zero h0
    have e0 : ¬ famErr (k : Int) f ≠ 0 := by simpa using h0
    rw [if_neg e0, if_neg e0, Int.toNat_natCast]
    have h1 := few_order hf.lo f
    have h2 : 0 ≤ fewM f k := (few_le f (allO k) 0 (Int.le_refl 0)).1
    refine ⟨?_, rfl⟩
    dsimp only
    rw [Bool.eq_iff_iff, ← h1, decide_eq_true_eq]
    omega
  · rw [if_pos h0, if_pos h0]
    exact ⟨rfl, rfl⟩
theorem fit_law {n : Int} {f : List (List Int)} {o : List Int} (h : FitsE n f o = (true, 0)) : ∃ k : Nat, n = k ∧ FamOK k f ∧ OrdOK k o ∧ fitsM o f = true ∧ MarksE n f o = ((marksN o f : Int), 0) ∧ (FewE n f).2.1 = true ∧ (FewE n f).1 ≤ marksN o f ∧
    checkT n f (cutM o 0 (marksM o f)) = 0 ∧ (cutM o 0 (marksM o f)).length = marksN o f ∧ Sm (cutM o 0 (marksM o f)) ∧
    ∀ s ∈ f, ∃ x : Nm, NamedE (cutM o 0 (marksM o f)) s = ([x], 0) ∧ StandE (cutM o 0 (marksM o f)) x.1 x.2 = (s, 0) := by
  unfold FitsE at h
  split at h
  · cases h
  · rename_i h0
    obtain ⟨k, rfl, hf, hok⟩ := ordErr_zero (by simpa using h0)
    simp only [Prod.mk.injEq, and_true] at h
    have hcut := cutOK_marks hf hok
    obtain ⟨s1, _⟩ := cut_sm hcut
    have h5 : famErr k f = 0 := famErr_of hf
    have e5 : ¬ famErr (k : Int) f ≠ 0 := by simpa using h5
    obtain ⟨h6, h7⟩ := fewM_le hok h
    have h8 : 0 ≤ fewM f k := (few_le f (allO k) 0 (Int.le_refl 0)).1
    refine ⟨k, rfl, hf, hok, h, ?_, ?_, ?_, check_marks hf hok h, by rw [cut_len, marks_len], s1, fun s hs => ?_⟩
    · unfold MarksE
      rw [if_neg h0, h, if_pos rfl]
    · unfold FewE
      rw [if_neg e5, Int.toNat_natCast]
      dsimp only
      rw [decide_eq_true_eq]
      omega
    · unfold FewE
      rw [if_neg e5, Int.toNat_natCast]
      exact h7
    · have h1 : fit1 o s = true := List.all_eq_true.1 h s hs
      obtain ⟨a, r, _, hr, _, h3, h4⟩ := hcut.cls (hf.ne s hs) (hf.up s hs) (hf.val s hs) h1 (((marks_spec o f).2 _).2 (.inl ⟨s, hs, rfl⟩))
      have ht := hcut.tab
      have hn : isName (cutM o 0 (marksM o f)) (el o a) (r : Int) = true := by
        unfold isName
        simp only [Bool.and_eq_true, decide_eq_true_eq, Int.toNat_natCast]
        exact ⟨⟨by omega, by rw [cut_len]; omega⟩, h3⟩
      have h9 := named_one ht hn
      rw [Int.toNat_natCast, h4] at h9
      have ht0 : ¬ tabErr (cutM o 0 (marksM o f)) ≠ 0 := by simpa using tabErr_zero.2 ht
      have hset : setG 5 none s = true := setG_of (fun x hx => by have := hf.val s hs x hx; have := hf.hi; omega) (hf.up s hs) fun y hy => by cases hy
      refine ⟨(el o a, (r : Int)), ?_, ?_⟩
      · unfold NamedE
        rw [if_neg ht0, hset, if_neg (by simp), h9]
      · unfold StandE
        rw [if_neg ht0, if_pos hn, Int.toNat_natCast, h4]
theorem lawTopSounds_c (n : Int) (f : List (List Int)) (o : List Int) (hb : f.length ≤ big) (ho : o.length ≤ big) : CallP Tryz.prog 10 [iv n, tabV f, ints o] (bv true) := by
  refine C10 (by simp) ?_
  have hlg := Long_c f hb
  have s2 : Sm [[0], [0, 1]] := ⟨by simp, by intro r hr; simp at hr; rcases hr with rfl | rfl <;> simp⟩
  have hF2 := Fewest_c 2 [[0], [0, 1]] s2
  have e2 : FewE 2 [[0], [0, 1]] = (1, true, 0) := by decide +kernel
  rw [e2] at hF2
  simp at hF2
  simp [A10]
  refine CallX.pure (CallP.weak (by simpa [weakL, weak] using hF2)) (by simp) (by simp) ?_
  try simp 
  repeat (refine PreK.intro (by first | omega | (intros; first | omega | (refine ⟨by omega, ?_⟩; simp_all; done) | (simp_all; done) | (simp_all; omega))) fun _ => ?_; (try simp ))
  refine CondK.ff ?_
  try simp 
  try simp 
  repeat (refine PreK.intro (by first | omega | (intros; first | omega | (refine ⟨by omega, ?_⟩; simp_all; done) | (simp_all; done) | (simp_all; omega))) fun _ => ?_; (try simp ))
  try simp 
  repeat' (first
    | (refine CallX.pure (hlg) (by simp) (by simp) ?_; try simp )
    | (refine CallK.intro (hlg) (by simp) (by simp) ?_; try simp )
    | (refine CallG.intro (fun _ => hlg) (by simp) (by simp) ?_; try simp )
    | ((with_reducible refine PreK.intro ?_ ?_); (next => (first | omega | (intros; first | omega | (refine ⟨by omega, ?_⟩; repeat (first | assumption | constructor)) | assumption))); intro _; try simp )
    | fail)
  cases hL : longT f with
  | true =>
    try simp 
    repeat (refine PreK.intro (by first | omega | (intros; first | omega | (refine ⟨by omega, ?_⟩; simp_all; done) | (simp_all; done) | (simp_all; omega))) fun _ => ?_; (try simp ))
    refine CondK.tt ?_
    try simp 
    try simp 
    repeat (refine PreK.intro (by first | omega | (intros; first | omega | (refine ⟨by omega, ?_⟩; simp_all; done) | (simp_all; done) | (simp_all; omega))) fun _ => ?_; (try simp ))
  | false =>
    by_cases h100 : 100 < o.length
    · have h100' : (100 : Int) < o.length := by omega
      try simp [h100, h100']
      repeat (refine PreK.intro (by first | omega | (intros; first | omega | (refine ⟨by omega, ?_⟩; simp_all; done) | (simp_all; done) | (simp_all; omega))) fun _ => ?_; (try simp [h100, h100']))
      refine CondK.tt ?_
      try simp 
      try simp 
      repeat (refine PreK.intro (by first | omega | (intros; first | omega | (refine ⟨by omega, ?_⟩; simp_all; done) | (simp_all; done) | (simp_all; omega))) fun _ => ?_; (try simp ))
    · have h100' : ¬ (100 : Int) < o.length := by omega
      try simp [h100, h100']
      repeat (refine PreK.intro (by first | omega | (intros; first | omega | (refine ⟨by omega, ?_⟩; simp_all; done) | (simp_all; done) | (simp_all; omega))) fun _ => ?_; (try simp [h100, h100']))
      refine CondK.ff ?_
      try simp 
      have hs := longT_small hL
      have c1 := Order_c n f hs
      have c2 := Table_c n f hs
      have c3 := Fewest_c n f hs
      have hol := order_len n f
      obtain ⟨f1, f2⟩ := order_few n f
      obtain ⟨l1, l2, l3, l4⟩ := makes_law n f
      have hfl := fun l => fit_law (n := n) (f := f) (o := l)
      have cCT := fun t h => CheckTable_c n f t hs h
      have cFits := fun l h => Fits_c n f l hs h
      have cMarks := fun l h => Marks_c n f l hs h
      generalize OrderE n f = O at *
      generalize TableE n f = Tb at *
      generalize FewE n f = Fw at *
      obtain ⟨fst, is, e⟩ := O
      obtain ⟨tb, some, e'⟩ := Tb
      obtain ⟨m, any, g⟩ := Fw
      dsimp only at *
      subst f1 f2 l1 l2
      by_cases h0 : e' = 0
      · subst h0
        try simp 
        repeat' (first
          | (refine CallX.pure (c1) (by simp) (by simp) ?_; try simp )
          | (refine CallK.intro (c1) (by simp) (by simp) ?_; try simp )
          | (refine CallG.intro (fun _ => c1) (by simp) (by simp) ?_; try simp )
          | ((with_reducible refine PreK.intro ?_ ?_); (next => (first | omega | (intros; first | omega | (refine ⟨by omega, ?_⟩; repeat (first | assumption | constructor)) | assumption))); intro _; try simp )
          | fail)
        refine CondK.ff ?_
        try simp 
        try simp 
        repeat (refine PreK.intro (by first | omega | (intros; first | omega | (refine ⟨by omega, ?_⟩; simp_all; done) | (simp_all; done) | (simp_all; omega))) fun _ => ?_; (try simp ))
        try simp 
        repeat' (first
          | (refine CallX.pure (c2) (by simp) (by simp) ?_; try simp )
          | (refine CallK.intro (c2) (by simp) (by simp) ?_; try simp )
          | (refine CallG.intro (fun _ => c2) (by simp) (by simp) ?_; try simp )
          | (refine CallX.pure (c3) (by simp) (by simp) ?_; try simp )
          | (refine CallK.intro (c3) (by simp) (by simp) ?_; try simp )
          | (refine CallG.intro (fun _ => c3) (by simp) (by simp) ?_; try simp )
          | ((with_reducible refine PreK.intro ?_ ?_); (next => (first | omega | (intros; first | omega | (refine ⟨by omega, ?_⟩; repeat (first | assumption | constructor)) | assumption))); intro _; try simp )
          | fail)
        refine CondK.ff ?_
        try simp 
        try simp 
        repeat (refine PreK.intro (by first | omega | (intros; first | omega | (refine ⟨by omega, ?_⟩; simp_all; done) | (simp_all; done) | (simp_all; omega))) fun _ => ?_; (try simp ))
        obtain ⟨ls, hls⟩ : ∃ ls : List (List Int), ls = [fst, o] := ⟨_, rfl⟩
        have hl2 : ls.length = 2 := by rw [hls]; rfl
        have hle : ∀ k, (el ls k).length ≤ 100 := by
          intro k
          rw [hls]
          match k with
          | 0 => show fst.length ≤ 100; omega
          | 1 => show o.length ≤ 100; omega
          | k + 2 => show (0 : Nat) ≤ 100; omega
        cases some with
        | false =>
          refine CallG.intro (r := (iv 0)) (fun hh => by cases hh) (by simp) (by simp) ?_
          try simp 
          try simp 
          repeat (refine PreK.intro (by first | omega | (intros; first | omega | (refine ⟨by omega, ?_⟩; simp_all; done) | (simp_all; done) | (simp_all; omega))) fun _ => ?_; (try simp ))
          refine CondK.ff ?_
          try simp 
          try simp 
          repeat (refine PreK.intro (by first | omega | (intros; first | omega | (refine ⟨by omega, ?_⟩; simp_all; done) | (simp_all; done) | (simp_all; omega))) fun _ => ?_; (try simp ))
          refine LoopK.by (ι := Nat) (fun i => ⟨[(19, iv i), (18, tabV ls), (15, iv m), (11, bv false), (0, iv n), (1, tabV f)], []⟩) (fun i => 2 - i) (fun i => i ≤ 2) 0 (Nat.zero_le _) (by simp [hls]) ?_
          intro i Q' hi hq he hr
          try simp 
          refine CondK.intro (fun h1 => ?_) (fun h1 => ?_)
          · simp at h1
            have hil : i < ls.length := by omega
            have c := cFits (el ls i) (hle i)
            have hf := hfl (el ls i)
            generalize FitsE n f (el ls i) = X at c hf
            obtain ⟨b, e⟩ := X
            dsimp only at c
            try simp [hil]
            repeat (refine PreK.intro (by first | omega | (intros; first | omega | (refine ⟨by omega, ?_⟩; simp_all; done) | (simp_all; done) | (simp_all; omega))) fun _ => ?_; (try simp [hil]))
            try simp [hil]
            repeat' (first
              | (refine CallX.pure (c) (by simp) (by simp) ?_; try simp [hil])
              | (refine CallK.intro (c) (by simp) (by simp) ?_; try simp [hil])
              | (refine CallG.intro (fun _ => c) (by simp) (by simp) ?_; try simp [hil])
              | ((with_reducible refine PreK.intro ?_ ?_); (next => (first | omega | (intros; first | omega | (refine ⟨by omega, ?_⟩; repeat (first | assumption | constructor)) | assumption))); intro _; try simp [hil])
              | fail)
            by_cases he0 : e = 0
            · subst he0
              cases b with
              | true =>
                obtain ⟨_, _, _, _, _, _, hfalse, _⟩ := hf rfl
                cases hfalse
              | false =>
                try simp 
                repeat (refine PreK.intro (by first | omega | (intros; first | omega | (refine ⟨by omega, ?_⟩; simp_all; done) | (simp_all; done) | (simp_all; omega))) fun _ => ?_; (try simp ))
                refine CondK.tt ?_
                try simp 
                try simp 
                repeat (refine PreK.intro (by first | omega | (intros; first | omega | (refine ⟨by omega, ?_⟩; simp_all; done) | (simp_all; done) | (simp_all; omega))) fun _ => ?_; (try simp ))
                exact hq (i + 1) _ (by omega) (by omega) (by simp)
            · try simp [he0]
              repeat (refine PreK.intro (by first | omega | (intros; first | omega | (refine ⟨by omega, ?_⟩; simp_all; done) | (simp_all; done) | (simp_all; omega))) fun _ => ?_; (try simp [he0]))
              refine CondK.tt ?_
              try simp 
              try simp 
              repeat (refine PreK.intro (by first | omega | (intros; first | omega | (refine ⟨by omega, ?_⟩; simp_all; done) | (simp_all; done) | (simp_all; omega))) fun _ => ?_; (try simp ))
              exact hq (i + 1) _ (by omega) (by omega) (by simp)
          · simp at h1
            have : i = 2 := by omega
            subst this
            try simp 
            apply he
            try simp 
            repeat (refine PreK.intro (by first | omega | (intros; first | omega | (refine ⟨by omega, ?_⟩; simp_all; done) | (simp_all; done) | (simp_all; omega))) fun _ => ?_; (try simp ))
        | true =>
          obtain ⟨k1, k2, k3, k4⟩ := l4 rfl
          have c4 := cCT tb k2
          rw [k3] at c4
          try simp [k4]
          repeat' (first
            | (refine CallX.pure (c4) (by simp) (by simp) ?_; try simp [k4])
            | (refine CallK.intro (c4) (by simp) (by simp) ?_; try simp [k4])
            | (refine CallG.intro (fun _ => c4) (by simp) (by simp) ?_; try simp [k4])
            | ((with_reducible refine PreK.intro ?_ ?_); (next => (first | omega | (intros; first | omega | (refine ⟨by omega, ?_⟩; repeat (first | assumption | constructor)) | assumption))); intro _; try simp [k4])
            | fail)
          refine CondK.ff ?_
          try simp 
          try simp 
          repeat (refine PreK.intro (by first | omega | (intros; first | omega | (refine ⟨by omega, ?_⟩; simp_all; done) | (simp_all; done) | (simp_all; omega))) fun _ => ?_; (try simp ))
          refine LoopK.by (ι := Nat) (fun i => ⟨[(19, iv i), (18, tabV ls), (15, iv m), (11, bv true), (0, iv n), (1, tabV f)], []⟩) (fun i => 2 - i) (fun i => i ≤ 2) 0 (Nat.zero_le _) (by simp [hls]) ?_
          intro i Q' hi hq he hr
          try simp 
          refine CondK.intro (fun h1 => ?_) (fun h1 => ?_)
          · simp at h1
            have hil : i < ls.length := by omega
            have c := cFits (el ls i) (hle i)
            have hf := hfl (el ls i)
            have cM := cMarks (el ls i) (hle i)
            by_cases hX : FitsE n f (el ls i) = (true, 0)
            · rw [hX] at c
              obtain ⟨k, hk, hfam, hok, hfit, hM, _, hmin, hck, hcl, hcs, hst⟩ := hf hX
              rw [hM] at cM
              have hct := cCT _ hcs
              rw [hck] at hct
              have hcc := cut_c f (el ls i) k hfam hok
              clear hf hX hM hck cMarks cFits hfl
              generalize cutM (el ls i) 0 (marksM (el ls i) f) = ct at hcl hcs hst hct hcc
              generalize marksN (el ls i) f = mk at hmin hcl cM
              dsimp only at hmin c cM
              have hmin' : ¬ (mk : Int) < m := by omega
              try simp [hil]
              repeat (refine PreK.intro (by first | omega | (intros; first | omega | (refine ⟨by omega, ?_⟩; simp_all; done) | (simp_all; done) | (simp_all; omega))) fun _ => ?_; (try simp [hil]))
              try simp [hil]
              repeat' (first
                | (refine CallX.pure (c) (by simp) (by simp) ?_; try simp [hil])
                | (refine CallK.intro (c) (by simp) (by simp) ?_; try simp [hil])
                | (refine CallG.intro (fun _ => c) (by simp) (by simp) ?_; try simp [hil])
                | ((with_reducible refine PreK.intro ?_ ?_); (next => (first | omega | (intros; first | omega | (refine ⟨by omega, ?_⟩; repeat (first | assumption | constructor)) | assumption))); intro _; try simp [hil])
                | fail)
              try simp [hil]
              repeat (refine PreK.intro (by first | omega | (intros; first | omega | (refine ⟨by omega, ?_⟩; simp_all; done) | (simp_all; done) | (simp_all; omega))) fun _ => ?_; (try simp [hil]))
              refine CondK.ff ?_
              try simp 
              try simp [hil]
              repeat (refine PreK.intro (by first | omega | (intros; first | omega | (refine ⟨by omega, ?_⟩; simp_all; done) | (simp_all; done) | (simp_all; omega))) fun _ => ?_; (try simp [hil]))
              refine CondK.ff ?_
              try simp 
              try simp [hil]
              repeat (refine PreK.intro (by first | omega | (intros; first | omega | (refine ⟨by omega, ?_⟩; simp_all; done) | (simp_all; done) | (simp_all; omega))) fun _ => ?_; (try simp [hil]))
              try simp [hil]
              repeat' (first
                | (refine CallX.pure (cM) (by simp) (by simp) ?_; try simp [hil])
                | (refine CallK.intro (cM) (by simp) (by simp) ?_; try simp [hil])
                | (refine CallG.intro (fun _ => cM) (by simp) (by simp) ?_; try simp [hil])
                | (refine CallX.pure (hcc) (by simp) (by simp) ?_; try simp [hil])
                | (refine CallK.intro (hcc) (by simp) (by simp) ?_; try simp [hil])
                | (refine CallG.intro (fun _ => hcc) (by simp) (by simp) ?_; try simp [hil])
                | ((with_reducible refine PreK.intro ?_ ?_); (next => (first | omega | (intros; first | omega | (refine ⟨by omega, ?_⟩; repeat (first | assumption | constructor)) | assumption))); intro _; try simp [hil])
                | fail)
              try simp [hil, hmin', hcl]
              repeat (refine PreK.intro (by first | omega | (intros; first | omega | (refine ⟨by omega, ?_⟩; simp_all; done) | (simp_all; done) | (simp_all; omega))) fun _ => ?_; (try simp [hil, hmin', hcl]))
              try simp [hil, hmin', hcl]
              repeat' (first
                | (refine CallX.pure (hct) (by simp) (by simp) ?_; try simp [hil, hmin', hcl])
                | (refine CallK.intro (hct) (by simp) (by simp) ?_; try simp [hil, hmin', hcl])
                | (refine CallG.intro (fun _ => hct) (by simp) (by simp) ?_; try simp [hil, hmin', hcl])
                | ((with_reducible refine PreK.intro ?_ ?_); (next => (first | omega | (intros; first | omega | (refine ⟨by omega, ?_⟩; repeat (first | assumption | constructor)) | assumption))); intro _; try simp [hil, hmin', hcl])
                | fail)
              try simp 
              repeat (refine PreK.intro (by first | omega | (intros; first | omega | (refine ⟨by omega, ?_⟩; simp_all; done) | (simp_all; done) | (simp_all; omega))) fun _ => ?_; (try simp ))
              refine CondK.ff ?_
              try simp 
              try simp 
              repeat (refine PreK.intro (by first | omega | (intros; first | omega | (refine ⟨by omega, ?_⟩; simp_all; done) | (simp_all; done) | (simp_all; omega))) fun _ => ?_; (try simp ))
              refine LoopK.by (ι := Nat) (fun j => ⟨[(24, iv j), (23, tabV ct), (19, iv i), (18, tabV ls), (15, iv m), (11, bv true), (0, iv n), (1, tabV f)], []⟩) (fun j => f.length - j) (fun j => j ≤ f.length) 0 (Nat.zero_le _) (by simp) ?_
              intro j Q2 hj hq2 he2 hr2
              try simp 
              refine CondK.intro (fun h2 => ?_) (fun h2 => ?_)
              · simp at h2
                obtain ⟨x, hx1, hx2⟩ := hst (el f j) (by unfold el; rw [List.getD_eq_getElem?_getD, List.getElem?_eq_getElem h2]; exact List.getElem_mem h2)
                have hsl := hs.el j
                have hfn := hs.num
                have cN := Named_c ct (el f j) hcs (by omega)
                have cS := Stand_c ct x.1 x.2 hcs
                rw [hx1] at cN
                rw [hx2] at cS
                have cE := same1_c (el f j) (el f j) (by simp only [big]; omega)
                dsimp only at cN cS
                try simp [h2]
                repeat (refine PreK.intro (by first | omega | (intros; first | omega | (refine ⟨by omega, ?_⟩; simp_all; done) | (simp_all; done) | (simp_all; omega))) fun _ => ?_; (try simp [h2]))
                try simp [h2]
                repeat' (first
                  | (refine CallX.pure (cN) (by simp) (by simp) ?_; try simp [h2])
                  | (refine CallK.intro (cN) (by simp) (by simp) ?_; try simp [h2])
                  | (refine CallG.intro (fun _ => cN) (by simp) (by simp) ?_; try simp [h2])
                  | ((with_reducible refine PreK.intro ?_ ?_); (next => (first | omega | (intros; first | omega | (refine ⟨by omega, ?_⟩; repeat (first | assumption | constructor)) | assumption))); intro _; try simp [h2])
                  | fail)
                try simp [h2]
                repeat (refine PreK.intro (by first | omega | (intros; first | omega | (refine ⟨by omega, ?_⟩; simp_all; done) | (simp_all; done) | (simp_all; omega))) fun _ => ?_; (try simp [h2]))
                refine CondK.ff ?_
                try simp 
                try simp [h2]
                repeat (refine PreK.intro (by first | omega | (intros; first | omega | (refine ⟨by omega, ?_⟩; simp_all; done) | (simp_all; done) | (simp_all; omega))) fun _ => ?_; (try simp [h2]))
                try simp [h2]
                repeat' (first
                  | (refine CallX.pure (cS) (by simp) (by simp) ?_; try simp [h2])
                  | (refine CallK.intro (cS) (by simp) (by simp) ?_; try simp [h2])
                  | (refine CallG.intro (fun _ => cS) (by simp) (by simp) ?_; try simp [h2])
                  | ((with_reducible refine PreK.intro ?_ ?_); (next => (first | omega | (intros; first | omega | (refine ⟨by omega, ?_⟩; repeat (first | assumption | constructor)) | assumption))); intro _; try simp [h2])
                  | fail)
                try simp [h2]
                repeat (refine PreK.intro (by first | omega | (intros; first | omega | (refine ⟨by omega, ?_⟩; simp_all; done) | (simp_all; done) | (simp_all; omega))) fun _ => ?_; (try simp [h2]))
                try simp [h2]
                repeat' (first
                  | (refine CallX.pure (cE) (by simp) (by simp) ?_; try simp [h2])
                  | (refine CallK.intro (cE) (by simp) (by simp) ?_; try simp [h2])
                  | (refine CallG.intro (fun _ => cE) (by simp) (by simp) ?_; try simp [h2])
                  | ((with_reducible refine PreK.intro ?_ ?_); (next => (first | omega | (intros; first | omega | (refine ⟨by omega, ?_⟩; repeat (first | assumption | constructor)) | assumption))); intro _; try simp [h2])
                  | fail)
                try simp [h2]
                repeat (refine PreK.intro (by first | omega | (intros; first | omega | (refine ⟨by omega, ?_⟩; simp_all; done) | (simp_all; done) | (simp_all; omega))) fun _ => ?_; (try simp [h2]))
                refine CondK.ff ?_
                try simp 
                try simp 
                repeat (refine PreK.intro (by first | omega | (intros; first | omega | (refine ⟨by omega, ?_⟩; simp_all; done) | (simp_all; done) | (simp_all; omega))) fun _ => ?_; (try simp ))
                exact hq2 (j + 1) _ (by omega) (by omega) (by simp)
              · simp at h2
                have : j = f.length := by omega
                subst this
                try simp 
                apply he2
                try simp 
                repeat (refine PreK.intro (by first | omega | (intros; first | omega | (refine ⟨by omega, ?_⟩; simp_all; done) | (simp_all; done) | (simp_all; omega))) fun _ => ?_; (try simp ))
                exact hq (i + 1) _ (by omega) (by omega) (by simp)
            · generalize FitsE n f (el ls i) = X at c hX
              obtain ⟨b, e⟩ := X
              dsimp only at c
              have hbe : (!decide (e = 0) || !b) = true := by
                cases b with
                | false => simp
                | true =>
                  by_cases h : e = 0
                  · subst h; exact absurd rfl hX
                  · simp [h]
              try simp [hil]
              repeat (refine PreK.intro (by first | omega | (intros; first | omega | (refine ⟨by omega, ?_⟩; simp_all; done) | (simp_all; done) | (simp_all; omega))) fun _ => ?_; (try simp [hil]))
              try simp [hil]
              repeat' (first
                | (refine CallX.pure (c) (by simp) (by simp) ?_; try simp [hil])
                | (refine CallK.intro (c) (by simp) (by simp) ?_; try simp [hil])
                | (refine CallG.intro (fun _ => c) (by simp) (by simp) ?_; try simp [hil])
                | ((with_reducible refine PreK.intro ?_ ?_); (next => (first | omega | (intros; first | omega | (refine ⟨by omega, ?_⟩; repeat (first | assumption | constructor)) | assumption))); intro _; try simp [hil])
                | fail)
              try simp [hbe]
              repeat (refine PreK.intro (by first | omega | (intros; first | omega | (refine ⟨by omega, ?_⟩; simp_all; done) | (simp_all; done) | (simp_all; omega))) fun _ => ?_; (try simp [hbe]))
              refine CondK.tt ?_
              try simp 
              try simp 
              repeat (refine PreK.intro (by first | omega | (intros; first | omega | (refine ⟨by omega, ?_⟩; simp_all; done) | (simp_all; done) | (simp_all; omega))) fun _ => ?_; (try simp ))
              exact hq (i + 1) _ (by omega) (by omega) (by simp)
          · simp at h1
            have : i = 2 := by omega
            subst this
            try simp 
            apply he
            try simp 
            repeat (refine PreK.intro (by first | omega | (intros; first | omega | (refine ⟨by omega, ?_⟩; simp_all; done) | (simp_all; done) | (simp_all; omega))) fun _ => ?_; (try simp ))
      · try simp 
        repeat' (first
          | (refine CallX.pure (c1) (by simp) (by simp) ?_; try simp )
          | (refine CallK.intro (c1) (by simp) (by simp) ?_; try simp )
          | (refine CallG.intro (fun _ => c1) (by simp) (by simp) ?_; try simp )
          | ((with_reducible refine PreK.intro ?_ ?_); (next => (first | omega | (intros; first | omega | (refine ⟨by omega, ?_⟩; repeat (first | assumption | constructor)) | assumption))); intro _; try simp )
          | fail)
        refine CondK.intro (fun h1 => ?_) (fun h1 => ?_)
        · try simp 
          repeat (refine PreK.intro (by first | omega | (intros; first | omega | (refine ⟨by omega, ?_⟩; simp_all; done) | (simp_all; done) | (simp_all; omega))) fun _ => ?_; (try simp ))
        · simp at h1
          exact absurd h1 h0
end Go.Proofs.YtgfgkfkplidncaaGreat
end
