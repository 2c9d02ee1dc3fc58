/- Part 5 of the proof: the value layer and the contracts of the functions that the statement reaches; proved without conditions beyond those each theorem states. -/
import Derived.RangeFuncBox
import Derived.RangeFuncLeaves
import Derived.Shelf.Abstract
import Derived.OwnWalkIn
import Derived.TacticsInMore
import Derived.LoopNIn
import Derived.LoopIn
import Derived.Test.YtnpkaemlidifgaaProg
import Derived.Test.YtnpkaemlidifgaaV3
import Derived.Test.YtnpkaemlidifgaaV4
set_option linter.unusedSimpArgs false
set_option linter.unusedVariables false

section
/- Functions of the cut as the value layer reads them. (written by gen.py) -/
set_option maxRecDepth 20000
namespace Go.Proofs.Ytnpkaemlidifgaa
open Go.Abs Go

def A102 : ACode :=
  (.seq (.reg [] [⟨some 4, (.assign (.const (.slice none 0 0))), 23, none⟩])
    (.seq (.seq (.reg [] [⟨some 9, (.move (.tmp 1)), 3, none⟩,
      ⟨some 10, (.binOp .lss 3 (.tmp 9) (.const (.int .i64 0)) 3), 4, none⟩])
    (.cond (.tmp 10)
    (.reg [] [⟨some 11, (.makeInterface 9 (.const (.string ⟨#[99, 97, 110, 110, 111, 116, 32, 98, 101, 32, 110, 101, 103, 97, 116, 105, 118, 101]⟩))), 20, none⟩,
      ⟨none, (.panic (.tmp 11)), 0, none⟩])
    .skip))
    (.seq (.reg [] [⟨some 13, (.move (.tmp 0)), 23, none⟩,
      ⟨some 14, (.call ⟨(.builtin .len), #[(.tmp 13)], #[23]⟩), 3, none⟩,
      ⟨some 15, (.convert 3 106 (.tmp 14)), 106, none⟩,
      ⟨some 16, (.move (.tmp 1)), 3, none⟩,
      ⟨some 17, (.convert 3 106 (.tmp 16)), 106, none⟩,
      ⟨some 18, (.call ⟨(.value (.func 116)), #[(.tmp 15), (.tmp 17)], #[106, 106]⟩), 122, none⟩,
      ⟨some 12, (.move (.tmp 18)), 122, none⟩,
      ⟨some 19, (.extract (.tmp 12) 0), 106, none⟩,
      ⟨some 20, (.extract (.tmp 12) 1), 106, none⟩,
      ⟨some 5, (.assign (.tmp 19)), 106, none⟩,
      ⟨some 6, (.assign (.tmp 20)), 106, none⟩])
    (.seq (.seq (.reg [] [⟨some 21, (.move (.tmp 5)), 106, none⟩,
      ⟨some 22, (.binOp .gtr 106 (.tmp 21) (.const (.int .u64 0)) 106), 4, none⟩,
      ⟨some 23, (.move (.tmp 22)), 4, none⟩,
      ⟨some 24, (.move (.tmp 6)), 106, some (23, false)⟩,
      ⟨some 25, (.binOp .gtr 106 (.tmp 24) (.const (.int .u64 9223372036854775807)) 106), 4, some (23, false)⟩,
      ⟨some 26, (.pick (.tmp 23) (.const (.bool true)) (.tmp 25)), 4, none⟩])
    (.cond (.tmp 26)
    (.reg [] [⟨some 27, (.makeInterface 9 (.const (.string ⟨#[116, 104, 101, 32, 114, 101, 115, 117, 108, 116, 32, 111, 102, 32, 40, 108, 101, 110, 40, 120, 41, 32, 42, 32, 99, 111, 117, 110, 116, 41, 32, 111, 118, 101, 114, 102, 108, 111, 119, 115]⟩))), 20, none⟩,
      ⟨none, (.panic (.tmp 27)), 0, none⟩])
    .skip))
    (.seq (.reg [] [⟨some 28, (.move (.tmp 6)), 106, none⟩,
      ⟨some 29, (.convert 106 3 (.tmp 28)), 3, none⟩,
      ⟨some 30, (.makeSlice 23 (.tmp 29) (.tmp 29)), 23, none⟩,
      ⟨some 7, (.assign (.tmp 30)), 23, none⟩])
    (.seq (.reg [] [⟨some 31, (.move (.tmp 7)), 23, none⟩,
      ⟨some 32, (.move (.tmp 0)), 23, none⟩,
      ⟨some 33, (.call ⟨(.builtin .copy), #[(.tmp 31), (.tmp 32)], #[23, 23]⟩), 3, none⟩,
      ⟨some 8, (.assign (.tmp 33)), 3, none⟩])
    (.seq (.block 0 (.loop (.seq (.seq (.reg [] [⟨some 34, (.move (.tmp 8)), 3, none⟩,
      ⟨some 35, (.move (.tmp 7)), 23, none⟩,
      ⟨some 36, (.call ⟨(.builtin .len), #[(.tmp 35)], #[23]⟩), 3, none⟩,
      ⟨some 37, (.binOp .lss 3 (.tmp 34) (.tmp 36) 3), 4, none⟩])
    (.cond (.tmp 37)
    .skip
    (.exit 0)))
    (.block 1 (.draw [] [⟨some 38, (.move (.tmp 8)), 3, none⟩,
      ⟨some 39, (.move (.tmp 7)), 23, none⟩,
      ⟨some 40, (.move (.tmp 8)), 3, none⟩,
      ⟨some 41, (.slice 23 (.tmp 39) (some (.tmp 40)) none none), 23, none⟩,
      ⟨some 42, (.move (.tmp 7)), 23, none⟩,
      ⟨some 43, (.move (.tmp 8)), 3, none⟩,
      ⟨some 44, (.slice 23 (.tmp 42) none (some (.tmp 43)) none), 23, none⟩,
      ⟨some 45, (.call ⟨(.builtin .copy), #[(.tmp 41), (.tmp 44)], #[23, 23]⟩), 3, none⟩,
      ⟨some 46, (.binOp .add 3 (.tmp 38) (.tmp 45) 3), 3, none⟩,
      ⟨some 8, (.assign (.tmp 46)), 3, none⟩] [(0, 1), (0, 2), (1, 2), (0, 3), (0, 4), (1, 4), (2, 4), (3, 4), (0, 5), (1, 5), (2, 5), (3, 5), (4, 5), (0, 6), (1, 6), (2, 6), (3, 6), (0, 7)])))))
    (.seq (.reg [] [⟨some 47, (.move (.tmp 7)), 23, none⟩,
      ⟨some 4, (.assign (.tmp 47)), 23, none⟩])
    .ret))))))))
theorem CO102 {args : List AV} {sz : Nat} {els : List AV} (hn : args.length ≤ 48) (h : vc Try.prog T [] A102 (FinO [(.tmp 4)] sz els) ⟨envOf 0 args, []⟩) : CallO Try.prog 102 args sz els :=
  callO_of tok mixed Try.func102 (by kernel_rfl) (by kernel_rfl) (by kernel_rfl : Try.f102.ntmps = 48) (by kernel_rfl : Try.f102.body.bind (strip 48 (fun _ => [])) = some A102) hn h

end Go.Proofs.Ytnpkaemlidifgaa
end

section
/- Contracts: a product of which one is one; slices.Repeat of one number. -/
namespace Go.Proofs.Ytnpkaemlidifgaa
open Go.Abs Go
set_option maxRecDepth 20000
set_option maxHeartbeats 2000000
attribute [local irreducible] PreK CondK CallK CallG CallX LoopK
attribute [local simp] avsEq avEq akind teq vkind vEq T_106

def uv (n : Int) : AV := .raw (.int .u64 n)
theorem Mul64_c (n : Nat) (h : n ≤ 1000) : CallP Try.prog 132 [uv 1, uv n] (.tup [uv 0, uv n]) := by
  refine C132 (by simp) ?_
  have h1 : n &&& 4294967295 = n := by
    have := Nat.and_two_pow_sub_one_eq_mod n 32
    rw [show (2 : Nat) ^ 32 - 1 = 4294967295 by decide] at this
    rw [this]
    exact Nat.mod_eq_of_lt (by omega)
  have h2 : Int.fdiv (n : Int) 4294967296 = 0 := by
    rw [Int.fdiv_eq_ediv_of_nonneg _ (by decide)]
    omega
  simp [A132, uv]
  repeat (refine PreK.intro (by first | omega | (intros; first | omega | (refine ⟨by omega, ?_⟩; simp_all; done) | (simp_all; done) | (simp_all; omega))) fun _ => ?_; (try simp [h1, h2]))
theorem Mul_c (n : Nat) (h : n ≤ 1000) : CallP Try.prog 116 [uv 1, uv n] (.tup [uv 0, uv n]) := by
  refine C116 (by simp) ?_
  have := Mul64_c n h
  simp only [uv] at this ⊢
  simp [A116]
  refine CondK.intro (fun h1 => ?_) (fun h1 => ?_)
  · cases h1
  · try simp 
    repeat' (first
      | (refine CallX.pure (this) (by simp) (by simp) ?_; try simp )
      | (refine CallK.intro (this) (by simp) (by simp) ?_; try simp )
      | (refine CallG.intro (fun _ => this) (by simp) (by simp) ?_; try simp )
      | ((with_reducible refine PreK.intro ?_ ?_); (next => (first | omega | (intros; first | omega | (refine ⟨by omega, ?_⟩; repeat (first | assumption | constructor)) | assumption))); intro _; try simp )
      | fail)
/-- A row of one number, made by taking what is there twice, again and again. -/
theorem repeat_o (k : Bool) (v : Int) (n : Nat) (h0 : 0 < n) (h : n ≤ 1000) : CallO Try.prog 102 [.seq 1 [iv v] k, iv (n : Int)] 1 (List.replicate n (iv v)) := by
  refine CO102 (by simp) ?_
  have hm := Mul_c n h
  simp only [uv] at hm
  simp [A102]
  repeat (refine PreK.intro (by first | omega | (intros; first | omega | (refine ⟨by omega, ?_⟩; simp_all; done) | (simp_all; done) | (simp_all; omega))) fun _ => ?_; (try simp ))
  refine CondK.intro (fun h1 => ?_) (fun h1 => ?_)
  · simp at h1; omega
  · repeat (refine PreK.intro (by first | omega | (intros; first | omega | (refine ⟨by omega, ?_⟩; simp_all; done) | (simp_all; done) | (simp_all; omega))) fun _ => ?_; (try simp ))
    have w1 : IntKind.u64.wrap 1 = 1 := by decide
    have w2 : IntKind.u64.wrap (n : Int) = n := wrap_in (by simp only [inR]; omega)
    have w3 : IntKind.i64.wrap (n : Int) = n := wrap_in (by simp only [inR]; omega)
    repeat (refine PreK.intro (by first | omega | (intros; first | omega | (refine ⟨by omega, ?_⟩; simp_all; done) | (simp_all; done) | (simp_all; omega))) fun _ => ?_; (try simp [w1, w2, w3]))
    rw [w1, w2]
    try simp [w1, w2, w3]
    repeat' (first
      | (refine CallX.pure (hm) (by simp) (by simp) ?_; try simp [w1, w2, w3])
      | (refine CallK.intro (hm) (by simp) (by simp) ?_; try simp [w1, w2, w3])
      | (refine CallG.intro (fun _ => hm) (by simp) (by simp) ?_; try simp [w1, w2, w3])
      | ((with_reducible refine PreK.intro ?_ ?_); (next => (first | omega | (intros; first | omega | (refine ⟨by omega, ?_⟩; repeat (first | assumption | constructor)) | assumption))); intro _; try simp [w1, w2, w3])
      | fail)
    refine CondK.intro (fun h2 => ?_) (fun h2 => ?_)
    · simp at h2; omega
    · repeat (refine PreK.intro (by first | omega | (intros; first | omega | (refine ⟨by omega, ?_⟩; simp_all; done) | (simp_all; done) | (simp_all; omega))) fun _ => ?_; (try simp [w1, w2, w3]))
      have t1 : List.take n [AV.raw (Value.int IntKind.i64 v)] = [AV.raw (Value.int IntKind.i64 v)] := List.take_of_length_le h0
      have t2 : min n 1 = 1 := by omega
      have t3 : min 1 n = 1 := by omega
      refine LoopK.by (ι := Nat) (fun k => ⟨[(8, iv k), (7, .sl 30 1 0 n)], [(30, some ⟨1, List.replicate k (iv v) ++ List.replicate (n - k) (iv 0), 1, false⟩)]⟩) (fun k => n - k) (fun k => 1 ≤ k ∧ k ≤ n) 1 ⟨Nat.le_refl 1, h0⟩ (by simp [t1, t2, t3]) ?_
      intro k Q' ⟨k1, k2⟩ hq he hr
      repeat (refine PreK.intro (by first | omega | (intros; first | omega | (refine ⟨by omega, ?_⟩; simp_all; done) | (simp_all; done) | (simp_all; omega))) fun _ => ?_; (try simp ))
      refine CondK.intro (fun h3 => ?_) (fun h3 => ?_)
      · simp at h3
        repeat (refine PreK.intro (by first | omega | (intros; first | omega | (refine ⟨by omega, ?_⟩; simp_all; done) | (simp_all; done) | (simp_all; omega))) fun _ => ?_; (try simp [h3]))
        have e1 : min k (n - k) = min (n - k) k := Nat.min_comm _ _
        have e2 : List.drop (k + min (n - k) k) (List.replicate k (AV.raw (Value.int IntKind.i64 v)) ++ List.replicate (n - k) (AV.raw (Value.int IntKind.i64 0))) = List.replicate (n - (k + min (n - k) k)) (AV.raw (Value.int IntKind.i64 0)) := by
          rw [List.drop_append, List.drop_replicate, List.drop_replicate, List.length_replicate, show k - (k + min (n - k) k) = 0 by omega, show n - k - (k + min (n - k) k - k) = n - (k + min (n - k) k) by omega]
          simp
        exact hq (k + min (n - k) k) _ ⟨by omega, by omega⟩ (by omega) (by simp [e1, e2])
      · simp at h3
        have e : k = n := by omega
        subst e
        try simp 
        apply he
        repeat (refine PreK.intro (by first | omega | (intros; first | omega | (refine ⟨by omega, ?_⟩; simp_all; done) | (simp_all; done) | (simp_all; omega))) fun _ => ?_; (try simp ))
end Go.Proofs.Ytnpkaemlidifgaa
end

section
/- Contracts: the readings that copies fix; the changes of readings. -/
namespace Go.Proofs.Ytnpkaemlidifgaa
open Go.Abs Go
set_option maxRecDepth 20000
set_option maxHeartbeats 2000000
attribute [local irreducible] PreK CondK CallK CallG CallX LoopK
attribute [local simp] avsEq avEq akind teq vkind vEq

theorem fixed_c (t : List (List Int)) (par ats : List Int) (p : Nat) (ht : Rds t) (hx : Treed par ats) (hl : ats.length = t.length) (hp : p < wid t) :
    CallP Try.prog 93 [rdsV t, treeV par ats, iv p] (match fixF (List.replicate par.length (-1)) (prs t ats p) with | some o => .tup [ints o, bv true] | none => .tup [ints [], bv false]) := by
  refine C93 (by simp) ?_
  have hn := ht.num
  have htop := hx.top
  have hpos := hx.pos
  have hrp := repeat_o false (-1) par.length hpos (by omega)
  have hcl := colM_len t p
  generalize hR : fixF (List.replicate par.length (-1)) (prs t ats p) = R
  simp [A93]
  repeat (refine PreK.intro (by first | omega | (intros; first | omega | (refine ⟨by omega, ?_⟩; simp_all; done) | (simp_all; done) | (simp_all; omega))) fun _ => ?_; (try simp ))
  refine CallX.own (by simpa using hrp) (by simp) (by simp) ?_
  try simp 
  repeat (refine PreK.intro (by first | omega | (intros; first | omega | (refine ⟨by omega, ?_⟩; simp_all; done) | (simp_all; done) | (simp_all; omega))) fun _ => ?_; (try simp ))
  refine LoopK.by (ι := Nat × List Int) (fun x => ⟨[(19, iv x.1), (18, iv ats.length), (17, ints ats), (0, rdsV t), (2, iv p), (8, .sl 15 1 0 par.length)], [(15, some ⟨1, x.2.map iv, 1, false⟩)]⟩) (fun x => ats.length - x.1)
    (fun x => x.1 ≤ ats.length ∧ x.2.length = par.length ∧ fixF x.2 ((prs t ats p).drop x.1) = R) (0, List.replicate par.length (-1)) ⟨Nat.zero_le _, by simp, by simpa using hR⟩ (by simp) ?_
  intro ⟨i, own⟩ Q' ⟨hi, hol, hc⟩ hq he hr'
  dsimp only at hi hol hc
  try simp 
  refine CondK.intro (fun h1 => ?_) (fun h1 => ?_)
  · simp at h1
    have hit : i < t.length := by omega
    have hrow := ht.row hit
    have hpl : p < (el t i).length := by omega
    have hat := hx.atsR _ (el_mem_of ats i h1)
    obtain ⟨m, hm⟩ : ∃ m : Nat, el ats i = (m : Int) := ⟨(el ats i).toNat, by omega⟩
    have hml : m < own.length := by omega
    have hpd : (prs t ats p).drop i = (el ats i, el (el t i) p) :: (prs t ats p).drop (i + 1) := by
      unfold prs
      rw [zip_drop h1 (by omega), el_col hit]
    rw [hpd, fixF, hm, Int.toNat_natCast] at hc
    by_cases h2 : 0 ≤ el own m
    · repeat (refine PreK.intro (by first | omega | (intros; first | omega | (refine ⟨by omega, ?_⟩; simp_all; done) | (simp_all; done) | (simp_all; omega))) fun _ => ?_; (try simp [h1, hit, hpl, hm, hml, h2]))
      refine CondK.intro (fun h3 => ?_) (fun h3 => ?_)
      · simp at h3
        rw [if_pos ⟨h2, h3⟩] at hc
        subst hc
        try simp 
        apply hr'
        try simp 
      · simp at h3
        rw [if_neg (by simp [h3])] at hc
        repeat (refine PreK.intro (by first | omega | (intros; first | omega | (refine ⟨by omega, ?_⟩; simp_all; done) | (simp_all; done) | (simp_all; omega))) fun _ => ?_; (try simp [h1, hit, hpl, hm, hml]))
        exact hq (i + 1, own.set m (el (el t i) p)) _ ⟨by dsimp only; omega, by simpa using hol, hc⟩ (by dsimp only; omega) (by simp [List.map_set])
    · rw [if_neg (fun h => h2 h.1)] at hc
      repeat (refine PreK.intro (by first | omega | (intros; first | omega | (refine ⟨by omega, ?_⟩; simp_all; done) | (simp_all; done) | (simp_all; omega))) fun _ => ?_; (try simp [h1, hit, hpl, hm, hml, h2]))
      refine CondK.ff ?_
      try simp 
      repeat (refine PreK.intro (by first | omega | (intros; first | omega | (refine ⟨by omega, ?_⟩; simp_all; done) | (simp_all; done) | (simp_all; omega))) fun _ => ?_; (try simp [h1, hit, hpl, hm, hml]))
      exact hq (i + 1, own.set m (el (el t i) p)) _ ⟨by dsimp only; omega, by simpa using hol, hc⟩ (by dsimp only; omega) (by simp [List.map_set])
  · simp at h1
    rw [List.drop_eq_nil_of_le (by simp [prs]; omega)] at hc
    simp only [fixF] at hc
    subst hc
    try simp 
    apply he
    repeat (refine PreK.intro (by first | omega | (intros; first | omega | (refine ⟨by omega, ?_⟩; simp_all; done) | (simp_all; done) | (simp_all; omega))) fun _ => ?_; (try simp [hol]))
    exact List.take_of_length_le (by simp [hol])
theorem changes_c (par ats rd : List Int) (hx : Treed par ats) (hr : rd.length = par.length) : CallP Try.prog 61 [treeV par ats, ints rd] (iv (chgM par rd)) := by
  refine C61 (by simp) ?_
  have htop := hx.top
  have hpos := hx.pos
  generalize hR : chgM par rd = R
  unfold chgM at hR
  simp [A61]
  refine LoopK.by (ι := Nat) (fun i => ⟨[(6, iv ((i : Int) + 1)), (5, iv (chg (pf par) (el rd) i)), (1, ints rd), (2, .pt 2 1 0 0)], [(2, some ⟨2, [treeV par ats], 1, true⟩)]⟩) (fun i => par.length - i) (fun i => i + 1 ≤ par.length) 0 (by omega) (by simp [chg]) ?_
  intro i Q' hi hq he hr'
  have hle := chg_le (pf par) (el rd) i
  have hnn := chg_nn (pf par) (el rd) i
  try simp 
  refine CondK.intro (fun h1 => ?_) (fun h1 => ?_)
  · simp at h1
    have h2 : i + 1 < par.length := by omega
    have h2' : i + 1 < rd.length := by omega
    have hpf := hx.pfE (show 1 ≤ i + 1 by omega) h2
    have hlt := pf_lt par (i + 1) (by omega)
    have h3 : pf par (i + 1) < rd.length := by omega
    have h4 : el par (i + 1) = ((pf par (i + 1) : Nat) : Int) := hpf.2.symm
    have hq' := hq (i + 1)
    simp only [chg, dd] at hq'
    generalize pf par (i + 1) = m at h3 h4 hq'
    repeat (refine PreK.intro (by first | omega | (intros; first | omega | (refine ⟨by omega, ?_⟩; simp_all; done) | (simp_all; done) | (simp_all; omega))) fun _ => ?_; (try simp [h2, h2', h3, h4]))
    refine CondK.intro (fun h5 => ?_) (fun h5 => ?_)
    · simp at h5
      rw [if_neg h5] at hq'
      repeat (refine PreK.intro (by first | omega | (intros; first | omega | (refine ⟨by omega, ?_⟩; simp_all; done) | (simp_all; done) | (simp_all; omega))) fun _ => ?_; (try simp ))
      exact hq' _ (by omega) (by omega) (by simp)
    · simp at h5
      rw [if_pos h5] at hq'
      repeat (refine PreK.intro (by first | omega | (intros; first | omega | (refine ⟨by omega, ?_⟩; simp_all; done) | (simp_all; done) | (simp_all; omega))) fun _ => ?_; (try simp ))
      exact hq' _ (by omega) (by omega) (by simp)
  · simp at h1
    have : i = par.length - 1 := by omega
    subst this
    rw [hR]
    try simp 
    apply he
    try simp 
end Go.Proofs.Ytnpkaemlidifgaa
end

section
/- The library's walk through a list from its end on, as what is ranged over. -/
namespace Go.Proofs.Ytnpkaemlidifgaa
open Go.Abs Go
open Go.RowKit Go.Shelf
attribute [local go_sem] Oper.semAt_some

/-- What is handed out: the places from the last one on, and what stands there. -/
def backL (l : List Int) : List (List Value) := (List.range l.length).map fun k => [.int .i64 ((l.length - 1 - k : Nat) : Int), .int .i64 (el l (l.length - 1 - k))]
theorem backL_len (l : List Int) : (backL l).length = l.length := by simp [backL]
theorem backL_get (l : List Int) (k : Nat) (h : k < l.length) : (backL l).getD k [] = [.int .i64 ((l.length - 1 - k : Nat) : Int), .int .i64 (el l (l.length - 1 - k))] := by
  simp [backL, List.getD_eq_getElem?_getD, h]

set_option maxRecDepth 100000 in
set_option maxHeartbeats 2000000 in
theorem backward_in (l : Nat) (Bs o0 : Nat) (p : Option Addr) (b off len cap : Nat) (hp : len ≠ 0 → p = some ⟨b, off, none⟩) (zs : List Int) (hz : zs.length = len) (hreach : len ≤ 1000) (X : Nat → Prop) (w : World)
    (J : Nat → World → Prop) (Jx : World → Prop)
    (hc : ∀ k W, J k W → W.cell? ⟨Bs, o0, none⟩ = some (.slice p len cap) ∧ ∀ j, j < len → W.cell? ⟨b, off + j, none⟩ = some (.int .i64 (el zs j)))
    (hY : ∀ k W, k < len → J k W → YieldAt Fence.wide 0 Try.prog l #[.int .i64 ((len - 1 - k : Nat) : Int), .int .i64 (el zs (len - 1 - k))] W fun e W' => (e = .returned (.bool true) ∧ J (k + 1) W') ∨ (e = .returned (.bool false) ∧ Jx W'))
    (h0 : J 0 w) :
    CallsIn Fence.wide 1 Try.prog 103 #[.func (.yield l) #[] #[], .pointer (some ⟨Bs, o0, none⟩)] w fun e W' => (∃ v, e = .returned v) ∧ (J len W' ∨ Jx W') := by
  refine callsIn_of_wp Try.func103 rfl trivial ?_ rfl
  simp only [Try.ntmps103, List.size_toArray, List.length_cons, List.length_nil, Nat.reduceAdd, Nat.reduceSub, Array.replicate_succ, Array.replicate_zero, List.push_toArray, List.append_toArray, List.nil_append, List.cons_append]
  obtain ⟨hb0, hc0⟩ := hc 0 w h0
  gi_wp2
  gi_loopw [3] (fun i wr => ∃ k : Nat, k ≤ len ∧ i = .int .i64 ((len : Int) - 1 - k) ∧ J k wr)
    (fun i _ => (intOf i + 1).toNat)
  case atStart => exact ⟨0, Nat.zero_le _, by simp, h0⟩
  case round =>
    obtain ⟨k, hk, rfl, hJs⟩ := hrel
    obtain ⟨hb1, hc1⟩ := hc k wr hJs
    by_cases hlt : k < len
    · obtain rfl : p = _ := hp (by omega)
      obtain ⟨fn, tmps, assign, body, hy, hR⟩ := hY k wr hlt hJs
      obtain ⟨n, hn⟩ : ∃ n : Nat, n + k + 1 = len := ⟨len - 1 - k, by omega⟩
      have e : (len : Int) - 1 - k = (n : Int) := by omega
      have e2 : len - 1 - k = n := by omega
      rw [e2] at hy
      clear e2
      have hcx := hc1 n (by omega)
      have hnl : n < len := by omega
      rw [e]
      clear e
      gi_wp2
      refine hR.mono ?_
      rintro e W3 (⟨rfl, hJ3⟩ | ⟨rfl, hJx3⟩)
      · gi_wp2
        go_roundw
        case rel => exact ⟨k + 1, by omega, by simp; omega, hJ3⟩
        case measure => simp [intOf]
      · gi_wp2
        refine bodyPost_ret (results_none rfl _ _ _) rfl ?_
        exact ⟨⟨_, rfl⟩, .inr hJx3⟩
    · obtain rfl : k = len := by omega
      have e : (k : Int) - 1 - k = -1 := by omega
      rw [e]
      gi_wp2
      go_end0
      exact ⟨⟨_, rfl⟩, .inl hJs⟩
theorem backward_it (l : List Int) (hl : l.length ≤ 1000) : IterP Try.prog 103 [.ipt (ints l) 0] (backL l) := by
  refine ⟨⟨_, Try.func103, by decide +kernel, by simp [Try.f103]⟩, fun y w X vs hX hlen hargs J Jx hJg hJxg hkeep hY h0 => ?_⟩
  obtain ⟨v0, rfl⟩ : ∃ v0, vs = #[v0] := by
    cases vs with
    | mk l =>
      match l, hlen with
      | [a], _ => exact ⟨a, rfl⟩
  have h1 : Rep w X Mu.none (.ipt (ints l) 0) v0 := hargs 0 (by simp)
  rw [backL_len] at hY
  have hY2 : ∀ k W, k < l.length → J k W → YieldAt Fence.wide 0 Try.prog y #[.int .i64 ((l.length - 1 - k : Nat) : Int), .int .i64 (el l (l.length - 1 - k))] W fun e W' => (e = .returned (.bool true) ∧ J (k + 1) W') ∨ (e = .returned (.bool false) ∧ Jx W') := by
    intro k W hk hJ
    have := hY k W hk hJ
    rw [backL_get l k hk] at this
    exact this
  rw [backL_len]
  cases h1 with
  | @ipt _ _ _ b off c e0 fr hXb hb hfit hone h2 =>
    have hfit' : off < c.size := by simp only [ints, AV.width] at hfit; omega
    have hcell : ∀ k W, J k W → W.cell? ⟨b, off, none⟩ = some (c.getD off undef) := by
      intro k W hJ
      have := hkeep k W hJ b (lt_of_heap hb) hXb
      exact cell_heap (this.trans hb) hfit'
    have h3 : Rep w X Mu.none (.seq 1 (l.map iv) false) (c.getD off undef) := h2
    refine callsIn_wide.2 ((callsIn_wide (n := 1)).1 ?_)
    generalize hv : c.getD off undef = u at h3 hcell
    generalize hm : l.map iv = m at h3
    have hml : m.length = l.length := by rw [← hm]; simp
    cases h3 with
    | nil =>
      have h00 : l.length = 0 := by simpa using hml.symm
      have := backward_in y b off _ 0 0 l.length 0 (fun h => absurd h00 h) l rfl hl X w J Jx (fun k W hJ => ⟨by rw [hcell k W hJ, h00], fun j hj => by omega⟩) hY2 h0
      exact this
    | @seq _ _ _ _ b2 off2 cap c2 e2 fr2 hX2 hb2 hcap hfull hbig hfit2 hw2 hone2 hr2 =>
      have hcells : ∀ j, j < l.length → c2.getD (off2 + j) undef = .int .i64 (el l j) := by
        intro j hj
        have := hr2 j (by omega)
        rw [← hm] at this
        have e : (l.map iv).getD j .junk = iv (el l j) := nth_map iv l j hj
        rw [e] at this
        simp only [iv, elemVal, Nat.mul_one] at this
        exact this.one.1
      have := backward_in y b off _ b2 off2 l.length cap (fun _ => rfl) l rfl hl X w J Jx (fun k W hJ => ⟨by rw [hcell k W hJ, hml], fun j hj => by
        have hk := hkeep k W hJ b2 (lt_of_heap hb2) hX2
        rw [cell_heap (hk.trans hb2) (by omega), hcells j hj]⟩) hY2 h0
      exact this
theorem Backward_c (l : List Int) : CallP Try.prog 94 [ints l] (.fn 103 [] [.ipt (ints l) 0]) := by
  refine C94 (by simp) ?_
  simp [A94]
end Go.Proofs.Ytnpkaemlidifgaa
end

section
/- Functions of the cut as the value layer reads them. (written by gen.py) -/
set_option maxRecDepth 20000
namespace Go.Proofs.Ytnpkaemlidifgaa
open Go.Abs Go

def A60 : RCode :=
  (.seq (.code (.reg [] [⟨some 4, (.box 25 (.tmp 1)), 0, none⟩,
      ⟨some 6, (.assign (.const (.slice none 0 0))), 23, none⟩,
      ⟨some 7, (.assign (.const (.bool false))), 4, none⟩]))
    (.seq (.code (.reg [] [⟨some 24, (.move (.tmp 0)), 22, none⟩,
      ⟨some 25, (.load 25 (.tmp 4)), 25, none⟩,
      ⟨some 26, (.move (.tmp 2)), 3, none⟩,
      ⟨some 27, (.call ⟨(.value (.func 93)), #[(.tmp 24), (.tmp 25), (.tmp 26)], #[22, 25, 3]⟩), 69, none⟩,
      ⟨some 23, (.move (.tmp 27)), 69, none⟩,
      ⟨some 28, (.extract (.tmp 23) 0), 23, none⟩,
      ⟨some 29, (.extract (.tmp 23) 1), 4, none⟩,
      ⟨some 8, (.alloc 23), 0, none⟩,
      ⟨none, (.store 23 (.tmp 8) (.tmp 28)), 0, none⟩,
      ⟨some 9, (.assign (.tmp 29)), 4, none⟩]))
    (.seq (.code (.seq (.reg [] [⟨some 30, (.move (.tmp 9)), 4, none⟩,
      ⟨some 31, (.unOp .not 4 (.tmp 30)), 4, none⟩])
    (.cond (.tmp 31)
    (.seq (.reg [] [⟨some 6, (.assign (.const (.slice none 0 0))), 23, none⟩,
      ⟨some 7, (.assign (.const (.bool false))), 4, none⟩])
    .ret)
    .skip)))
    (.seq (.code (.reg [] [⟨some 32, (.load 23 (.tmp 8)), 23, none⟩,
      ⟨some 33, (.call ⟨(.builtin .len), #[(.tmp 32)], #[23]⟩), 3, none⟩,
      ⟨some 34, (.makeSlice 92 (.tmp 33) (.tmp 33)), 92, none⟩,
      ⟨some 10, (.alloc 92), 0, none⟩,
      ⟨none, (.store 92 (.tmp 10) (.tmp 34)), 0, none⟩]))
    (.seq (.seq (.code (.reg [] [⟨some 35, (.load 23 (.tmp 8)), 23, none⟩,
      ⟨some 36, (.call ⟨(.value (.func 94)), #[(.tmp 35)], #[23]⟩), 94, none⟩]))
    (.block 0 (.range (.tmp 36) [37, 38]
    (.reg [] [⟨some 11, (.assign (.tmp 37)), 3, none⟩])
    (.block 1 (.seq (.seq (.reg [] [⟨some 39, (.move (.const (.int .i64 0))), 3, none⟩])
    (.block 2 (.loop (.seq (.reg [] [⟨some 40, (.binOp .lss 3 (.tmp 39) (.const (.int .i64 3)) 3), 0, none⟩])
    (.seq (.cond (.tmp 40)
    .skip
    (.exit 2))
    (.seq (.block 3 (.seq (.reg [] [⟨some 41, (.move (.tmp 39)), 3, none⟩,
      ⟨some 12, (.assign (.tmp 41)), 3, none⟩])
    (.seq (.reg [] [⟨some 42, (.load 23 (.tmp 8)), 23, none⟩,
      ⟨some 43, (.move (.tmp 11)), 3, none⟩,
      ⟨some 44, (.indexAddr 23 (.tmp 42) (.tmp 43)), 0, none⟩,
      ⟨some 45, (.load 3 (.tmp 44)), 3, none⟩,
      ⟨some 46, (.binOp .geq 3 (.tmp 45) (.const (.int .i64 0)) 3), 4, none⟩,
      ⟨some 47, (.move (.tmp 46)), 4, none⟩,
      ⟨some 48, (.load 23 (.tmp 8)), 23, some (47, true)⟩,
      ⟨some 49, (.move (.tmp 11)), 3, some (47, true)⟩,
      ⟨some 50, (.indexAddr 23 (.tmp 48) (.tmp 49)), 0, some (47, true)⟩,
      ⟨some 51, (.load 3 (.tmp 50)), 3, some (47, true)⟩,
      ⟨some 52, (.move (.tmp 12)), 3, some (47, true)⟩,
      ⟨some 53, (.binOp .neq 3 (.tmp 51) (.tmp 52) 3), 4, some (47, true)⟩,
      ⟨some 54, (.pick (.tmp 47) (.tmp 53) (.const (.bool false))), 4, none⟩])
    (.cond (.tmp 54)
    (.reg [] [⟨some 55, (.load 92 (.tmp 10)), 92, none⟩,
      ⟨some 56, (.move (.tmp 11)), 3, none⟩,
      ⟨some 57, (.move (.tmp 12)), 3, none⟩,
      ⟨some 58, (.indexAddr 92 (.tmp 55) (.tmp 56)), 0, none⟩,
      ⟨some 59, (.indexAddr 96 (.tmp 58) (.tmp 57)), 0, none⟩,
      ⟨none, (.store 3 (.tmp 59) (.const (.int .i64 17))), 0, none⟩])
    .skip))))
    (.reg [] [⟨some 60, (.binOp .add 3 (.tmp 39) (.const (.int .i64 1)) 3), 3, none⟩,
      ⟨some 39, (.move (.tmp 60)), 3, none⟩])))))))
    (.seq (.seq (.reg [] [⟨some 61, (.move (.tmp 11)), 3, none⟩,
      ⟨some 62, (.binOp .eql 3 (.tmp 61) (.const (.int .i64 0)) 3), 4, none⟩])
    (.cond (.tmp 62)
    (.exit 0)
    .skip))
    (.seq (.reg [] [⟨some 63, (.fieldAddr 25 (.tmp 4) 0), 0, none⟩,
      ⟨some 64, (.load 23 (.tmp 63)), 23, none⟩,
      ⟨some 65, (.move (.tmp 11)), 3, none⟩,
      ⟨some 66, (.indexAddr 23 (.tmp 64) (.tmp 65)), 0, none⟩,
      ⟨some 67, (.load 3 (.tmp 66)), 3, none⟩,
      ⟨some 13, (.assign (.tmp 67)), 3, none⟩])
    (.seq (.reg [] [⟨some 68, (.move (.const (.int .i64 0))), 3, none⟩])
    (.block 4 (.loop (.seq (.reg [] [⟨some 69, (.binOp .lss 3 (.tmp 68) (.const (.int .i64 3)) 3), 0, none⟩])
    (.seq (.cond (.tmp 69)
    .skip
    (.exit 4))
    (.seq (.block 5 (.seq (.reg [] [⟨some 70, (.move (.tmp 68)), 3, none⟩,
      ⟨some 14, (.assign (.tmp 70)), 3, none⟩])
    (.seq (.reg [] [⟨some 15, (.assign (.const (.int .i64 17))), 3, none⟩])
    (.seq (.seq (.reg [] [⟨some 71, (.load 92 (.tmp 10)), 92, none⟩,
      ⟨some 72, (.move (.tmp 11)), 3, none⟩,
      ⟨some 73, (.indexAddr 92 (.tmp 71) (.tmp 72)), 0, none⟩,
      ⟨some 74, (.load 96 (.tmp 73)), 96, none⟩,
      ⟨some 75, (.move (.const (.int .i64 0))), 3, none⟩])
    (.block 6 (.loop (.seq (.reg [] [⟨some 76, (.binOp .lss 3 (.tmp 75) (.const (.int .i64 3)) 3), 0, none⟩])
    (.seq (.cond (.tmp 76)
    .skip
    (.exit 6))
    (.seq (.block 7 (.seq (.reg [] [⟨some 77, (.move (.tmp 75)), 3, none⟩,
      ⟨some 78, (.index 96 (.tmp 74) (.tmp 75)), 3, none⟩,
      ⟨some 16, (.assign (.tmp 77)), 3, none⟩,
      ⟨some 17, (.assign (.tmp 78)), 3, none⟩])
    (.seq (.seq (.reg [] [⟨some 79, (.move (.tmp 16)), 3, none⟩,
      ⟨some 80, (.move (.tmp 14)), 3, none⟩,
      ⟨some 81, (.binOp .neq 3 (.tmp 79) (.tmp 80) 3), 4, none⟩])
    (.cond (.tmp 81)
    (.reg [] [⟨some 82, (.move (.tmp 17)), 3, none⟩,
      ⟨some 83, (.binOp .add 3 (.tmp 82) (.const (.int .i64 1)) 3), 3, none⟩,
      ⟨some 17, (.assign (.tmp 83)), 3, none⟩])
    .skip))
    (.reg [] [⟨some 84, (.move (.tmp 15)), 3, none⟩,
      ⟨some 85, (.move (.tmp 17)), 3, none⟩,
      ⟨some 86, (.call ⟨(.builtin .min), #[(.tmp 84), (.tmp 85)], #[3, 3]⟩), 3, none⟩,
      ⟨some 15, (.assign (.tmp 86)), 3, none⟩]))))
    (.reg [] [⟨some 87, (.binOp .add 3 (.tmp 75) (.const (.int .i64 1)) 3), 3, none⟩,
      ⟨some 75, (.move (.tmp 87)), 3, none⟩])))))))
    (.draw [] [⟨some 88, (.load 92 (.tmp 10)), 92, none⟩,
      ⟨some 89, (.move (.tmp 13)), 3, none⟩,
      ⟨some 90, (.move (.tmp 14)), 3, none⟩,
      ⟨some 91, (.indexAddr 92 (.tmp 88) (.tmp 89)), 0, none⟩,
      ⟨some 92, (.indexAddr 96 (.tmp 91) (.tmp 90)), 0, none⟩,
      ⟨some 93, (.load 3 (.tmp 92)), 3, none⟩,
      ⟨some 94, (.move (.tmp 15)), 3, none⟩,
      ⟨some 95, (.binOp .add 3 (.tmp 93) (.tmp 94) 3), 3, none⟩,
      ⟨some 96, (.indexAddr 92 (.tmp 88) (.tmp 89)), 0, none⟩,
      ⟨some 97, (.indexAddr 96 (.tmp 96) (.tmp 90)), 0, none⟩,
      ⟨none, (.store 3 (.tmp 97) (.tmp 95)), 0, none⟩] [(0, 1), (0, 2), (1, 2), (2, 3), (0, 6), (1, 6), (2, 6), (3, 6), (4, 6), (5, 6), (2, 8), (3, 8), (4, 8), (5, 8), (6, 8), (7, 8)])))))
    (.reg [] [⟨some 98, (.binOp .add 3 (.tmp 68) (.const (.int .i64 1)) 3), 3, none⟩,
      ⟨some 68, (.move (.tmp 98)), 3, none⟩]))))))))))))))
    (.code (.seq (.reg [] [⟨some 99, (.load 23 (.tmp 8)), 23, none⟩,
      ⟨some 100, (.call ⟨(.builtin .len), #[(.tmp 99)], #[23]⟩), 3, none⟩,
      ⟨some 101, (.makeSlice 23 (.tmp 100) (.tmp 100)), 23, none⟩,
      ⟨some 18, (.assign (.tmp 101)), 23, none⟩])
    (.seq (.seq (.reg [] [⟨some 102, (.load 23 (.tmp 8)), 23, none⟩,
      ⟨some 103, (.call ⟨(.builtin .len), #[(.tmp 102)], #[23]⟩), 3, none⟩,
      ⟨some 104, (.move (.const (.int .i64 0))), 3, none⟩])
    (.block 8 (.loop (.seq (.reg [] [⟨some 105, (.binOp .lss 3 (.tmp 104) (.tmp 103) 3), 4, none⟩])
    (.seq (.cond (.tmp 105)
    .skip
    (.exit 8))
    (.seq (.block 9 (.seq (.reg [] [⟨some 106, (.move (.tmp 104)), 3, none⟩,
      ⟨some 19, (.assign (.tmp 106)), 3, none⟩])
    (.seq (.reg [] [⟨some 20, (.assign (.const (.int .i64 (-1)))), 3, none⟩])
    (.seq (.reg [] [⟨some 107, (.load 92 (.tmp 10)), 92, none⟩,
      ⟨some 108, (.move (.tmp 19)), 3, none⟩,
      ⟨some 109, (.indexAddr 92 (.tmp 107) (.tmp 108)), 0, none⟩,
      ⟨some 110, (.load 96 (.tmp 109)), 96, none⟩,
      ⟨some 111, (.move (.const (.int .i64 0))), 3, none⟩])
    (.block 10 (.loop (.seq (.reg [] [⟨some 112, (.binOp .lss 3 (.tmp 111) (.const (.int .i64 3)) 3), 0, none⟩])
    (.seq (.cond (.tmp 112)
    .skip
    (.exit 10))
    (.seq (.block 11 (.seq (.reg [] [⟨some 113, (.move (.tmp 111)), 3, none⟩,
      ⟨some 114, (.index 96 (.tmp 110) (.tmp 111)), 3, none⟩,
      ⟨some 21, (.assign (.tmp 113)), 3, none⟩,
      ⟨some 22, (.assign (.tmp 114)), 3, none⟩])
    (.seq (.seq (.reg [] [⟨some 115, (.load 23 (.tmp 8)), 23, none⟩,
      ⟨some 116, (.move (.tmp 19)), 3, none⟩,
      ⟨some 117, (.indexAddr 23 (.tmp 115) (.tmp 116)), 0, none⟩,
      ⟨some 118, (.load 3 (.tmp 117)), 3, none⟩,
      ⟨some 119, (.binOp .geq 3 (.tmp 118) (.const (.int .i64 0)) 3), 4, none⟩,
      ⟨some 120, (.move (.tmp 119)), 4, none⟩,
      ⟨some 121, (.load 23 (.tmp 8)), 23, some (120, true)⟩,
      ⟨some 122, (.move (.tmp 19)), 3, some (120, true)⟩,
      ⟨some 123, (.indexAddr 23 (.tmp 121) (.tmp 122)), 0, some (120, true)⟩,
      ⟨some 124, (.load 3 (.tmp 123)), 3, some (120, true)⟩,
      ⟨some 125, (.move (.tmp 21)), 3, some (120, true)⟩,
      ⟨some 126, (.binOp .neq 3 (.tmp 124) (.tmp 125) 3), 4, some (120, true)⟩,
      ⟨some 127, (.pick (.tmp 120) (.tmp 126) (.const (.bool false))), 4, none⟩])
    (.cond (.tmp 127)
    (.exit 11)
    .skip))
    (.seq (.seq (.reg [] [⟨some 128, (.move (.tmp 19)), 3, none⟩,
      ⟨some 129, (.binOp .gtr 3 (.tmp 128) (.const (.int .i64 0)) 3), 4, none⟩,
      ⟨some 130, (.move (.tmp 129)), 4, none⟩,
      ⟨some 131, (.move (.tmp 21)), 3, some (130, true)⟩,
      ⟨some 132, (.move (.tmp 18)), 23, some (130, true)⟩,
      ⟨some 133, (.fieldAddr 25 (.tmp 4) 0), 0, some (130, true)⟩,
      ⟨some 134, (.load 23 (.tmp 133)), 23, some (130, true)⟩,
      ⟨some 135, (.move (.tmp 19)), 3, some (130, true)⟩,
      ⟨some 136, (.indexAddr 23 (.tmp 134) (.tmp 135)), 0, some (130, true)⟩,
      ⟨some 137, (.load 3 (.tmp 136)), 3, some (130, true)⟩,
      ⟨some 138, (.indexAddr 23 (.tmp 132) (.tmp 137)), 0, some (130, true)⟩,
      ⟨some 139, (.load 3 (.tmp 138)), 3, some (130, true)⟩,
      ⟨some 140, (.binOp .neq 3 (.tmp 131) (.tmp 139) 3), 4, some (130, true)⟩,
      ⟨some 141, (.pick (.tmp 130) (.tmp 140) (.const (.bool false))), 4, none⟩])
    (.cond (.tmp 141)
    (.reg [] [⟨some 142, (.move (.tmp 22)), 3, none⟩,
      ⟨some 143, (.binOp .add 3 (.tmp 142) (.const (.int .i64 1)) 3), 3, none⟩,
      ⟨some 22, (.assign (.tmp 143)), 3, none⟩])
    .skip))
    (.seq (.reg [] [⟨some 144, (.move (.tmp 20)), 3, none⟩,
      ⟨some 145, (.binOp .lss 3 (.tmp 144) (.const (.int .i64 0)) 3), 4, none⟩,
      ⟨some 146, (.move (.tmp 145)), 4, none⟩,
      ⟨some 147, (.move (.tmp 22)), 3, some (146, false)⟩,
      ⟨some 148, (.move (.tmp 20)), 3, some (146, false)⟩,
      ⟨some 149, (.binOp .lss 3 (.tmp 147) (.tmp 148) 3), 4, some (146, false)⟩,
      ⟨some 150, (.pick (.tmp 146) (.const (.bool true)) (.tmp 149)), 4, none⟩])
    (.cond (.tmp 150)
    (.reg [] [⟨some 151, (.move (.tmp 18)), 23, none⟩,
      ⟨some 152, (.move (.tmp 19)), 3, none⟩,
      ⟨some 153, (.move (.tmp 22)), 3, none⟩,
      ⟨some 154, (.move (.tmp 21)), 3, none⟩,
      ⟨some 20, (.assign (.tmp 153)), 3, none⟩,
      ⟨some 155, (.indexAddr 23 (.tmp 151) (.tmp 152)), 0, none⟩,
      ⟨none, (.store 3 (.tmp 155) (.tmp 154)), 0, none⟩])
    .skip))))))
    (.reg [] [⟨some 156, (.binOp .add 3 (.tmp 111) (.const (.int .i64 1)) 3), 3, none⟩,
      ⟨some 111, (.move (.tmp 156)), 3, none⟩]))))))))))
    (.reg [] [⟨some 157, (.binOp .add 3 (.tmp 104) (.const (.int .i64 1)) 3), 3, none⟩,
      ⟨some 104, (.move (.tmp 157)), 3, none⟩])))))))
    (.seq (.reg [] [⟨some 158, (.move (.tmp 18)), 23, none⟩,
      ⟨some 6, (.assign (.tmp 158)), 23, none⟩,
      ⟨some 7, (.assign (.const (.bool true))), 4, none⟩])
    .ret)))))))))
theorem C60 {args : List AV} {r : AV} (hn : args.length ≤ 159) (h : vcR Try.prog T [] A60 (FinF T [(.tmp 6), (.tmp 7)] r) ⟨envOf 0 args, []⟩) : CallP Try.prog 60 args r :=
  callR_of tok mixed Try.func60 (by kernel_rfl) (by kernel_rfl) (by kernel_rfl : Try.f60.ntmps = 159) (by kernel_rfl : Try.f60.body.bind (stripR 159 (fun _ => [])) = some A60) hn h

end Go.Proofs.Ytnpkaemlidifgaa
end

section
/- Plain: tables of three costs a node, step by step. -/
namespace Go.Proofs.Ytnpkaemlidifgaa
open Go.Abs Go

def row3 (b : Cost) (j : Nat) : AV := .agg [iv (b j 0), iv (b j 1), iv (b j 2)]
def rowsB (b : Cost) (n : Nat) : List AV := (List.range n).map (row3 b)
theorem rowsB_len (b : Cost) (n : Nat) : (rowsB b n).length = n := by simp [rowsB]
theorem nth_rows {b : Cost} {n j : Nat} (h : j < n) : nth (rowsB b n) j = .agg [.raw (.int .i64 (b j 0)), .raw (.int .i64 (b j 1)), .raw (.int .i64 (b j 2))] := by
  simp [rowsB, nth, List.getD_eq_getElem?_getD, h, row3]
theorem rowsB_congr {b c : Cost} {n : Nat} (h : ∀ j, j < n → b j 0 = c j 0 ∧ b j 1 = c j 1 ∧ b j 2 = c j 2) : rowsB b n = rowsB c n := by
  unfold rowsB
  refine List.map_congr_left fun j hj => ?_
  obtain ⟨h0, h1, h2⟩ := h j (List.mem_range.1 hj)
  simp only [row3, h0, h1, h2]
theorem rowsB_set {b c : Cost} {n i : Nat} (x y z : Int) (h : ∀ j, j < n → j ≠ i → b j 0 = c j 0 ∧ b j 1 = c j 1 ∧ b j 2 = c j 2) (hi : c i 0 = x ∧ c i 1 = y ∧ c i 2 = z) :
    (rowsB b n).set i (.agg [.raw (.int .i64 x), .raw (.int .i64 y), .raw (.int .i64 z)]) = rowsB c n := by
  apply List.ext_getElem?
  intro j
  rw [List.getElem?_set]
  by_cases e : i = j
  · subst e
    rw [if_pos rfl]
    by_cases hj : i < n
    · rw [if_pos (by rw [rowsB_len]; exact hj)]
      simp [rowsB, hj, row3, hi.1, hi.2.1, hi.2.2]
    · rw [if_neg (by rw [rowsB_len]; exact hj)]
      simp [rowsB, hj]
  · rw [if_neg e]
    by_cases hj : j < n
    · obtain ⟨h0, h1, h2⟩ := h j hj (fun e2 => e e2.symm)
      simp [rowsB, hj, row3, h0, h1, h2]
    · simp [rowsB, hj]
theorem rowsB_zero (n : Nat) : rowsB zeroC n = List.replicate n (.agg [.raw (.int .i64 0), .raw (.int .i64 0), .raw (.int .i64 0)]) := by
  apply List.ext_getElem?
  intro j
  by_cases hj : j < n
  · simp [rowsB, hj, row3, zeroC]
  · simp [rowsB, hj]
/-- The first q readings of a node that are forbidden cost M. -/
def forbN (M : Int) (al : Nat → Int → Bool) (i : Nat) (b : Cost) (q : Int) : Cost := fun j r => if j = i ∧ r < q ∧ al i r = false then M else b j r
theorem forbN_zero (M : Int) (al : Nat → Int → Bool) (i : Nat) (b : Cost) (n : Nat) : rowsB (forbN M al i b 0) n = rowsB b n := by
  refine rowsB_congr fun j _ => ?_
  simp [forbN]
theorem forbN_all (M : Int) (al : Nat → Int → Bool) (i : Nat) (b : Cost) (n : Nat) : rowsB (forbN M al i b 3) n = rowsB (forb M al i b) n := by
  refine rowsB_congr fun j _ => ?_
  simp [forbN, forb]
/-- The first q readings of the parent are added to. -/
def addN (M : Int) (i p : Nat) (b : Cost) (q : Int) : Cost := fun j r => if j = p ∧ r < q then b j r + leastF M (b i) r else b j r
theorem addN_zero (M : Int) (i p : Nat) (b : Cost) (n : Nat) : rowsB (addN M i p b 0) n = rowsB b n := by
  refine rowsB_congr fun j _ => ?_
  simp [addN]
theorem addN_all (M : Int) (al : Nat → Int → Bool) (p : Nat → Nat) (i : Nat) (h : i ≠ 0) (b : Cost) (n : Nat) : rowsB (addN M i (p i) (forb M al i b) 3) n = rowsB (dpStep M al p i b) n := by
  refine rowsB_congr fun j _ => ?_
  simp [addN, dpStep, h]
theorem step_zero (M : Int) (al : Nat → Int → Bool) (p : Nat → Nat) (b : Cost) : dpStep M al p 0 b = forb M al 0 b := by
  funext j r
  simp [dpStep]
theorem step_bound {M B : Int} (hM : 0 ≤ M) (hB : M ≤ B) {al : Nat → Int → Bool} {p : Nat → Nat} {i : Nat} {b : Cost} (h : ∀ j r, 0 ≤ b j r ∧ b j r ≤ B) : ∀ j r, 0 ≤ dpStep M al p i b j r ∧ dpStep M al p i b j r ≤ B + M := by
  have hf : ∀ j r, 0 ≤ forb M al i b j r ∧ forb M al i b j r ≤ B := by
    intro j r
    unfold forb
    split
    · exact ⟨hM, hB⟩
    · exact h j r
  intro j r
  have h1 := hf j r
  have h2 : leastF M (forb M al i b i) r ≤ M := leastF_top
  have h3 : 0 ≤ leastF M (forb M al i b i) r := leastF_nn hM fun q => (hf i q).1
  unfold dpStep
  split <;> omega
theorem forb_bound {M B : Int} (hM : 0 ≤ M) (hB : M ≤ B) {al : Nat → Int → Bool} {i : Nat} {b : Cost} (h : ∀ j r, 0 ≤ b j r ∧ b j r ≤ B) : ∀ j r, 0 ≤ forb M al i b j r ∧ forb M al i b j r ≤ B := by
  intro j r
  unfold forb
  split
  · exact ⟨hM, hB⟩
  · exact h j r
theorem forbN_skip {M : Int} {al : Nat → Int → Bool} {i : Nat} {b : Cost} {q : Int} (h : al i q = true) : forbN M al i b (q + 1) = forbN M al i b q := by
  funext j r
  unfold forbN
  by_cases e : r = q
  · subst e; simp [h]
  · have : (r < q + 1) ↔ (r < q) := by omega
    simp only [this]
theorem forbN_hit {M : Int} {al : Nat → Int → Bool} {i : Nat} {b : Cost} {q : Int} (h : al i q = false) : forbN M al i b (q + 1) = fun j r => if j = i ∧ r = q then M else forbN M al i b q j r := by
  funext j r
  unfold forbN
  by_cases e : r = q
  · subst e
    by_cases e2 : j = i
    · subst e2; simp [h]; omega
    · simp [e2]
  · have : (r < q + 1) ↔ (r < q) := by omega
    simp only [this, e, and_false, if_false]
theorem addN_succ {M : Int} {i p : Nat} {b : Cost} {q : Int} : addN M i p b (q + 1) = fun j r => if j = p ∧ r = q then b p q + leastF M (b i) q else addN M i p b q j r := by
  funext j r
  unfold addN
  by_cases e : r = q
  · subst e
    by_cases e2 : j = p
    · subst e2; simp; omega
    · simp [e2]
  · have : (r < q + 1) ↔ (r < q) := by omega
    simp only [this, e, and_false, if_false]
def leastN (M : Int) (f : Int → Int) (r : Int) : Nat → Int
  | 0 => M
  | q + 1 => min (leastN M f r q) (f q + dd q r)
theorem leastN_all (M : Int) (f : Int → Int) (r : Int) : leastN M f r 3 = leastF M f r := by simp [leastN, leastF]
theorem leastN_bound {M : Int} {f : Int → Int} {r : Int} (hM : 0 ≤ M) (h : ∀ q, 0 ≤ f q) : ∀ k, 0 ≤ leastN M f r k ∧ leastN M f r k ≤ M
  | 0 => ⟨hM, Int.le_refl _⟩
  | k + 1 => by
    have ih := leastN_bound (r := r) hM h k
    have := h (k : Int)
    have := dd_nn (k : Int) r
    rw [leastN]
    omega
def rndN (g : Int → Int) (al : Int → Bool) : Nat → Int × Int
  | 0 => (-1, 0)
  | r + 1 => rnd g al (rndN g al r) r
theorem rndN_all (g : Int → Int) (al : Int → Bool) : (rndN g al 3).2 = pick g al := by simp [rndN, pick]
theorem rndN_bound {g : Int → Int} {al : Int → Bool} {B : Int} (hB : 0 ≤ B) (h : ∀ r, ok3 r → 0 ≤ g r ∧ g r ≤ B) : ∀ k, k ≤ 3 → -1 ≤ (rndN g al k).1 ∧ (rndN g al k).1 ≤ B
  | 0, _ => by simp [rndN]; omega
  | k + 1, hk => by
    have ih := rndN_bound (al := al) hB h k (by omega)
    have hg := h (k : Int) (by unfold ok3; omega)
    rw [rndN, rnd]
    split
    · exact ih
    · split
      · dsimp only; omega
      · exact ih
/-- The readings that are there, and zeros; the same with one more that is being looked for. -/
def outG (T : List Int) (n : Nat) : List Int := T ++ List.replicate n 0
def outF (T : List Int) (v : Int) (n : Nat) : List Int := T ++ v :: List.replicate n 0
theorem outG_succ (T : List Int) (n : Nat) : outG T (n + 1) = outF T 0 n := by simp [outG, outF, List.replicate_succ]
theorem outF_end (T : List Int) (v : Int) (n : Nat) : outF T v n = outG (T ++ [v]) n := by simp [outG, outF]
theorem outF_len (T : List Int) (v : Int) (n : Nat) : (outF T v n).length = T.length + 1 + n := by simp [outF]; omega
theorem outF_set (T : List Int) (v x : Int) (n : Nat) : ((outF T v n).map iv).set T.length (.raw (.int .i64 x)) = (outF T x n).map iv := by
  rw [show (AV.raw (.int .i64 x)) = iv x from rfl, ← List.map_set]
  unfold outF
  rw [List.set_append_right _ _ (Nat.le_refl _)]
  simp
theorem outF_el (T : List Int) (v : Int) (n j : Nat) (h : j < T.length) : el (outF T v n) j = el T j := el_app_lt _ _ _ h
end Go.Proofs.Ytnpkaemlidifgaa
end

section
/- PURSE -/
/- Contracts: readings of the nodes with the fewest changes. -/
namespace Go.Proofs.Ytnpkaemlidifgaa
open Go.Abs Go
set_option maxRecDepth 20000
set_option maxHeartbeats 8000000
attribute [local irreducible] PreK CondK CallK CallG CallX LoopK
attribute [local simp] avsEq avEq akind teq vkind vEq

theorem best_c (t : List (List Int)) (par ats : List Int) (p : Nat) (ht : Rds t) (hx : Treed par ats) (hl : ats.length = t.length) (hp : p < wid t) :
    CallP Try.prog 60 [rdsV t, treeV par ats, iv p] (match bestR par (prs t ats p) with | some o => .tup [ints o, bv true] | none => .tup [ints [], bv false]) := by
  refine C60 (by simp) ?_
  have hfx := fixed_c t par ats p ht hx hl hp
  have htop := hx.top
  have hpos := hx.pos
  have hok := treeOK_of ht hx hl hp
  generalize hR : (match bestR par (prs t ats p) with | some o => AV.tup [ints o, bv true] | none => .tup [ints [], bv false]) = R
  unfold bestR at hR
  cases hF : fixF (List.replicate par.length (-1)) (prs t ats p) with
  | none =>
    rw [hF] at hfx hR
    dsimp only [Option.map] at hfx hR
    simp [A60]
    try simp 
    repeat' (first
      | (refine CallX.pure (hfx) (by simp) (by simp) ?_; try simp )
      | (refine CallK.intro (hfx) (by simp) (by simp) ?_; try simp )
      | (refine CallG.intro (fun _ => hfx) (by simp) (by simp) ?_; try simp )
      | ((with_reducible refine PreK.intro ?_ ?_); (next => (first | omega | (intros; first | omega | (refine ⟨by omega, ?_⟩; repeat (first | assumption | constructor)) | assumption))); intro _; try simp )
      | fail)
    refine CondK.tt ?_
    try simp 
    subst hR
    refine ⟨[], ?_⟩
    simp [frzs]
    repeat (refine PreK.intro (by first | omega | (intros; first | omega | (refine ⟨by omega, ?_⟩; simp_all; done) | (simp_all; done) | (simp_all; omega))) fun _ => ?_; (try simp ))
  | some own =>
    rw [hF] at hfx hR
    dsimp only [Option.map] at hfx hR
    have hol : own.length = par.length := (fix_some hok.pairs (by simp) hF).1
    have hbw := Backward_c own
    have hit := backward_it own (by omega)
    have hrz := rowsB_zero own.length
    simp [A60]
    try simp 
    repeat' (first
      | (refine CallX.pure (hfx) (by simp) (by simp) ?_; try simp )
      | (refine CallK.intro (hfx) (by simp) (by simp) ?_; try simp )
      | (refine CallG.intro (fun _ => hfx) (by simp) (by simp) ?_; try simp )
      | ((with_reducible refine PreK.intro ?_ ?_); (next => (first | omega | (intros; first | omega | (refine ⟨by omega, ?_⟩; repeat (first | assumption | constructor)) | assumption))); intro _; try simp )
      | fail)
    refine CondK.ff ?_
    try simp 
    repeat (refine PreK.intro (by first | omega | (intros; first | omega | (refine ⟨by omega, ?_⟩; simp_all; done) | (simp_all; done) | (simp_all; omega))) fun _ => ?_; (try simp ))
    try simp 
    repeat' (first
      | (refine CallX.pure (hbw) (by simp) (by simp) ?_; try simp )
      | (refine CallK.intro (hbw) (by simp) (by simp) ?_; try simp )
      | (refine CallG.intro (fun _ => hbw) (by simp) (by simp) ?_; try simp )
      | ((with_reducible refine PreK.intro ?_ ?_); (next => (first | omega | (intros; first | omega | (refine ⟨by omega, ?_⟩; repeat (first | assumption | constructor)) | assumption))); intro _; try simp )
      | fail)
    rw [← hrz]
    refine RangeK.by ⟨[(36, .fn 103 [] [.ipt (ints own) 0]), (4, .pt 4 1 0 0), (8, .pt 8 1 0 0), (10, .pt 10 1 0 0)],
        [(4, some ⟨2, [treeV par ats], 1, true⟩), (8, some ⟨1, [ints own], 1, true⟩), (10, some ⟨1, [.sl 34 1 0 own.length], 1, true⟩), (34, some ⟨3, rowsB zeroC own.length, 1, false⟩)]⟩
      [(4, 1, 4), (8, 1, 8), (10, 1, 10), (34, 1, 34)] (ι := Cost) (fun b => [(4, some ⟨2, [treeV par ats], 0, true⟩), (8, some ⟨1, [ints own], 0, true⟩), (10, some ⟨1, [.sl 34 0 0 own.length], 0, true⟩), (34, some ⟨3, rowsB b own.length, 0, false⟩)])
      (fun k b => k < own.length ∧ dpRun 17 (alM own) (pf par) (own.length - k) b = costP par own ∧ ∀ j r, 0 ≤ b j r ∧ b j r ≤ 17 * ((k : Int) + 1)) zeroC
      hit (by simp) (by simp) (by simp [AV.refsL, AV.refs]) (by simp) ?_ (by simp) ⟨by omega, by rw [Nat.sub_zero, hol]; rfl, fun j r => by simp [zeroC]⟩ ?_ ?_ ?_
    · intro k hk
      rw [backL_len] at hk
      rw [backL_get own k hk]
      refine ⟨rfl, fun v hv => ?_⟩
      simp only [List.mem_cons, List.not_mem_nil, or_false] at hv
      rcases hv with rfl | rfl <;> rfl
    · intro k b _
      simp [RoundM]
    · intro k b Q' hk ⟨_, hrun, hbd⟩ hn hxt hrt
      rw [backL_len] at hk
      rw [backL_get own k hk]
      obtain ⟨i, hi⟩ : ∃ i : Nat, own.length - 1 - k = i := ⟨_, rfl⟩
      have hil : i < own.length := by omega
      have hki : own.length - k = i + 1 := by omega
      rw [hi]
      rw [hki, dpRun] at hrun
      have hk16 : k < 16 := by omega
      have hbB : ∀ j r, 0 ≤ b j r ∧ b j r ≤ 272 := fun j r => by have := hbd j r; omega
      have hfb := forb_bound (M := 17) (B := 272) (al := alM own) (i := i) (b := b) (by decide) (by decide) hbB
      simp [parE, renE]
      rw [← forbN_zero 17 (alM own) i b own.length]
      refine LoopK.by (ι := Nat) (fun r => ⟨[(39, iv r), (11, iv i), (4, .pt 4 0 0 0), (8, .pt 8 0 0 0), (10, .pt 10 0 0 0)], [(4, some ⟨2, [treeV par ats], 0, true⟩), (8, some ⟨1, [ints own], 0, true⟩), (10, some ⟨1, [.sl 34 0 0 own.length], 0, true⟩), (34, some ⟨3, rowsB (forbN 17 (alM own) i b r) own.length, 0, false⟩)]⟩)
        (fun r => 3 - r) (fun r => r ≤ 3) 0 (by decide) (by simp) ?_
      intro r Q2 hr3 hq2 he2 hrr2
      have hlen := rowsB_len (forbN 17 (alM own) i b r) own.length
      have hnth := nth_rows (b := forbN 17 (alM own) i b r) hil
      have hq3 := hq2 (r + 1)
      have hsk : alM own i r = true → forbN 17 (alM own) i b ((r + 1 : Nat) : Int) = forbN 17 (alM own) i b r := fun h => forbN_skip h
      have hht : alM own i r = false → forbN 17 (alM own) i b ((r + 1 : Nat) : Int) = fun j q => if j = i ∧ q = (r : Int) then 17 else forbN 17 (alM own) i b r j q := fun h => forbN_hit h
      by_cases h1 : r < 3
      · have h1' : (r : Int) < 3 := by omega
        try simp [h1']
        repeat (refine PreK.intro (by first | omega | (intros; first | omega | (refine ⟨by omega, ?_⟩; simp_all; done) | (simp_all; done) | (simp_all; omega))) fun _ => ?_; (try simp [h1']))
        refine CondK.tt ?_
        try simp 
        generalize forbN 17 (alM own) i b r = c at hlen hnth hsk hht
        by_cases h5 : 0 ≤ el own i
        · by_cases h6 : el own i = (r : Int)
          · have hal : alM own i r = true := by simp [alM, h6]
            rw [hsk hal] at hq3
            have hrc : r = 0 ∨ r = 1 ∨ r = 2 := by omega
            rcases hrc with rfl | rfl | rfl
            all_goals
              simp at h6
              try simp [hil, h5, h6]
              repeat (refine PreK.intro (by first | omega | (intros; first | omega | (refine ⟨by omega, ?_⟩; simp_all; done) | (simp_all; done) | (simp_all; omega))) fun _ => ?_; (try simp [hil, h5, h6]))
              refine CondK.ff ?_
              try simp 
              repeat (refine PreK.intro (by first | omega | (intros; first | omega | (refine ⟨by omega, ?_⟩; simp_all; done) | (simp_all; done) | (simp_all; omega))) fun _ => ?_; (try simp ))
              exact hq3 _ (by omega) (by omega) (by simp)
          · have hal : alM own i r = false := by simp [alM, h6]; omega
            rw [hht hal] at hq3
            have hrc : r = 0 ∨ r = 1 ∨ r = 2 := by omega
            rcases hrc with rfl | rfl | rfl
            all_goals
              simp at h6
              try simp [hil, h5, h6]
              repeat (refine PreK.intro (by first | omega | (intros; first | omega | (refine ⟨by omega, ?_⟩; simp_all; done) | (simp_all; done) | (simp_all; omega))) fun _ => ?_; (try simp [hil, h5, h6]))
              refine CondK.tt ?_
              try simp 
              repeat (refine PreK.intro (by first | omega | (intros; first | omega | (refine ⟨by omega, ?_⟩; simp_all; done) | (simp_all; done) | (simp_all; omega))) fun _ => ?_; (try simp [hil, hlen, hnth]))
              exact hq3 _ (by omega) (by omega) (by simp; exact .inl (rowsB_set _ _ _ (fun j _ hne => by simp [hne]) (by simp)))
        · have hal : alM own i r = true := by simp [alM]; omega
          rw [hsk hal] at hq3
          try simp [hil, h5]
          repeat (refine PreK.intro (by first | omega | (intros; first | omega | (refine ⟨by omega, ?_⟩; simp_all; done) | (simp_all; done) | (simp_all; omega))) fun _ => ?_; (try simp [hil, h5]))
          refine CondK.ff ?_
          try simp 
          repeat (refine PreK.intro (by first | omega | (intros; first | omega | (refine ⟨by omega, ?_⟩; simp_all; done) | (simp_all; done) | (simp_all; omega))) fun _ => ?_; (try simp ))
          exact hq3 _ (by omega) (by omega) (by simp)
      · have h1' : ¬ (r : Int) < 3 := by omega
        obtain rfl : r = 3 := by omega
        try simp [h1']
        repeat (refine PreK.intro (by first | omega | (intros; first | omega | (refine ⟨by omega, ?_⟩; simp_all; done) | (simp_all; done) | (simp_all; omega))) fun _ => ?_; (try simp [h1']))
        refine CondK.ff ?_
        try simp 
        apply he2
        have e3 : rowsB (forbN 17 (alM own) i b ((3 : Nat) : Int)) own.length = rowsB (forb 17 (alM own) i b) own.length := forbN_all _ _ _ _ _
        have e3' : rowsB (forbN 17 (alM own) i b 3) own.length = rowsB (forb 17 (alM own) i b) own.length := forbN_all _ _ _ _ _
        first | rw [e3] | rw [e3']
        by_cases hi0 : i = 0
        · subst hi0
          try simp 
          refine CondK.tt ?_
          try simp 
          rw [dpRun, step_zero] at hrun
          rw [hrun] at hfb ⊢
          apply hxt 0 [(4, some ⟨2, [treeV par ats], 0, true⟩), (8, some ⟨1, [ints own], 0, true⟩), (10, some ⟨1, [.sl 34 0 0 own.length], 0, true⟩), (34, some ⟨3, rowsB (costP par own) own.length, 0, false⟩)]
          · simp
          · simp [RoundM]
          · clear hn hxt hrt hq3 hq2 he2 hrr2 hsk hht hnth hlen e3 e3' hrun hbd hbB
            have hFl := rowsB_len (costP par own) own.length
            generalize hFc : costP par own = F at hfb hFl
            have hoz : List.replicate own.length (AV.raw (.int .i64 0)) = (outG (topD F (alM own) (pf par) 0) (own.length - 0)).map iv := by simp [topD, outG]
            try simp 
            repeat (refine PreK.intro (by first | omega | (intros; first | omega | (refine ⟨by omega, ?_⟩; simp_all; done) | (simp_all; done) | (simp_all; omega))) fun _ => ?_; (try simp ))
            rw [hoz]
            refine LoopK.by (ι := Nat) (fun i => ⟨[(104, iv i), (103, iv own.length), (18, .sl 101 1 0 own.length), (4, .pt 4 1 0 0), (8, .pt 8 1 0 0), (10, .pt 10 1 0 0)],
              [(101, some ⟨1, (outG (topD F (alM own) (pf par) i) (own.length - i)).map iv, 1, false⟩), (4, some ⟨2, [treeV par ats], 1, true⟩), (8, some ⟨1, [ints own], 1, true⟩), (10, some ⟨1, [.sl 34 1 0 own.length], 1, true⟩), (34, some ⟨3, rowsB F own.length, 1, false⟩)]⟩)
              (fun i => own.length - i) (fun i => i ≤ own.length) 0 (Nat.zero_le _) (by simp) ?_
            intro i Q3 hi3 hq he hr
            have hT := topD_len F (alM own) (pf par) i
            try simp 
            refine CondK.intro (fun h2 => ?_) (fun h2 => ?_)
            · simp at h2
              have hq' := hq (i + 1)
              rw [topD] at hq'
              have hnth := nth_rows (b := F) h2
              have hrep : outG (topD F (alM own) (pf par) i) (own.length - i) = outF (topD F (alM own) (pf par) i) (rndN (seenF F (pf par) (topD F (alM own) (pf par) i) i) (alM own i) 0).2 (own.length - (i + 1)) := by
                rw [show own.length - i = (own.length - (i + 1)) + 1 by omega, outG_succ]; rfl
              rw [hrep]
              rw [← outF_end, ← rndN_all] at hq'
              generalize hTT : topD F (alM own) (pf par) i = TT at hT hq'
              have hgb : ∀ r, ok3 r → 0 ≤ seenF F (pf par) TT i r ∧ seenF F (pf par) TT i r ≤ 273 := by
                intro r _
                have h1 := hfb i r
                have h2 := dd_nn r (el TT (pf par i))
                have h3 := dd_le r (el TT (pf par i))
                unfold seenF
                split <;> omega
              have hrb := rndN_bound (al := alM own i) (B := 273) (by decide) hgb
              generalize hZ : own.length - (i + 1) = Z at hq'
              have hset : ∀ v x : Int, ((outF TT v Z).map iv).set i (.raw (.int .i64 x)) = (outF TT x Z).map iv := by
                intro v x
                rw [← hT]; exact outF_set _ _ _ _
              have hol2 : ∀ v : Int, (outF TT v Z).length = own.length := by intro v; rw [outF_len]; omega
              try simp 
              repeat (refine PreK.intro (by first | omega | (intros; first | omega | (refine ⟨by omega, ?_⟩; simp_all; done) | (simp_all; done) | (simp_all; omega))) fun _ => ?_; (try simp [h2, hnth, hFl]))
              refine LoopK.by (ι := Nat) (fun r => ⟨[(111, iv r), (110, .agg [.raw (.int .i64 (F i 0)), .raw (.int .i64 (F i 1)), .raw (.int .i64 (F i 2))]), (20, iv (rndN (seenF F (pf par) TT i) (alM own i) r).1), (19, iv i), (104, iv i), (103, iv own.length), (18, .sl 101 1 0 own.length), (4, .pt 4 1 0 0), (8, .pt 8 1 0 0), (10, .pt 10 1 0 0)],
                [(101, some ⟨1, (outF TT (rndN (seenF F (pf par) TT i) (alM own i) r).2 Z).map iv, 1, false⟩), (4, some ⟨2, [treeV par ats], 1, true⟩), (8, some ⟨1, [ints own], 1, true⟩), (10, some ⟨1, [.sl 34 1 0 own.length], 1, true⟩), (34, some ⟨3, rowsB F own.length, 1, false⟩)]⟩)
                (fun r => 3 - r) (fun r => r ≤ 3) 0 (by decide) (by simp [rndN]) ?_
              intro r Q4 hr4 hq4 he4 hr5
              have hrb1 := hrb r hr4
              have hq5 := hq4 (r + 1)
              rw [rndN, rnd] at hq5
              by_cases h3 : r < 3
              · have h3' : (r : Int) < 3 := by omega
                have hg : seenF F (pf par) TT i r = F i r + if i = 0 then 0 else dd r (el TT (pf par i)) := rfl
                rw [hg] at hq5
                generalize rndN (seenF F (pf par) TT i) (alM own i) r = S at hrb1 hq5
                obtain ⟨S1, S2⟩ := S
                dsimp only at hrb1 hq5
                have hol3 := hol2 S2
                have hset3 := hset S2
                by_cases hal : alM own i r = true
                · rw [if_neg (by simp [hal])] at hq5
                  have hown : el own i < 0 ∨ el own i = (r : Int) := by simpa [alM] using hal
                  have hg0 : ∀ r : Int, (F i r + 0) = F i r := fun r => by omega
                  have hFe0 : r = 0 → F i (r : Int) = F i 0 := fun h => by rw [h]; rfl
                  have hFe1 : r = 1 → F i (r : Int) = F i 1 := fun h => by rw [h]; rfl
                  have hFe2 : r = 2 → F i (r : Int) = F i 2 := fun h => by rw [h]; rfl
                  have hrc : r = 0 ∨ r = 1 ∨ r = 2 := by omega
                  rcases hrc with rfl | rfl | rfl
                  all_goals
                    try have hFe := hFe0 rfl
                    try have hFe := hFe1 rfl
                    try have hFe := hFe2 rfl
                    clear hFe0 hFe1 hFe2
                    try simp 
                    repeat (refine PreK.intro (by first | omega | (intros; first | omega | (refine ⟨by omega, ?_⟩; simp_all; done) | (simp_all; done) | (simp_all; omega))) fun _ => ?_; (try simp ))
                    refine CondK.tt ?_
                    try simp 
                    have hF0 := hfb i 0
                    have hF1 := hfb i 1
                    have hF2 := hfb i 2
                    rcases Decidable.em (i = 0) with hi0 | hi0
                    · rw [if_pos hi0] at hq5
                      subst hi0
                      have h0p : 0 < par.length := hpos
                      have hroot := hx.root
                      have h00 : 0 < (outF TT S2 Z).length := by rw [hol3]; omega
                      rcases hown with h5 | h6
                      · have h5' : ¬ 0 ≤ el own 0 := by omega
                        try simp [h2, h5']
                        repeat (refine PreK.intro (by first | omega | (intros; first | omega | (refine ⟨by omega, ?_⟩; simp_all; done) | (simp_all; done) | (simp_all; omega))) fun _ => ?_; (try simp [h2, h5']))
                        refine CondK.ff ?_
                        try simp 
                        try simp [h2, h0p, hroot, h00]
                        repeat (refine PreK.intro (by first | omega | (intros; first | omega | (refine ⟨by omega, ?_⟩; simp_all; done) | (simp_all; done) | (simp_all; omega))) fun _ => ?_; (try simp [h2, h0p, hroot, h00]))
                        refine CondK.ff ?_
                        try simp 
                        try simp 
                        refine CondK.intro (fun h7 => ?_) (fun h7 => ?_)
                        · rw [if_pos (by simp at h7; omega)] at hq5
                          try simp [h2, hol3]
                          repeat (refine PreK.intro (by first | omega | (intros; first | omega | (refine ⟨by omega, ?_⟩; simp_all; done) | (simp_all; done) | (simp_all; omega))) fun _ => ?_; (try simp [h2, hol3]))
                          exact hq5 _ (by omega) (by omega) (by simp; exact .inl (hset3 _))
                        · rw [if_neg (by simp at h7; omega)] at hq5
                          try simp 
                          repeat (refine PreK.intro (by first | omega | (intros; first | omega | (refine ⟨by omega, ?_⟩; simp_all; done) | (simp_all; done) | (simp_all; omega))) fun _ => ?_; (try simp ))
                          exact hq5 _ (by omega) (by omega) (by simp)
                      · simp at h6
                        try simp [h2, h6]
                        repeat (refine PreK.intro (by first | omega | (intros; first | omega | (refine ⟨by omega, ?_⟩; simp_all; done) | (simp_all; done) | (simp_all; omega))) fun _ => ?_; (try simp [h2, h6]))
                        refine CondK.ff ?_
                        try simp 
                        try simp [h2, h0p, hroot, h00]
                        repeat (refine PreK.intro (by first | omega | (intros; first | omega | (refine ⟨by omega, ?_⟩; simp_all; done) | (simp_all; done) | (simp_all; omega))) fun _ => ?_; (try simp [h2, h0p, hroot, h00]))
                        refine CondK.ff ?_
                        try simp 
                        try simp 
                        refine CondK.intro (fun h7 => ?_) (fun h7 => ?_)
                        · rw [if_pos (by simp at h7; omega)] at hq5
                          try simp [h2, hol3]
                          repeat (refine PreK.intro (by first | omega | (intros; first | omega | (refine ⟨by omega, ?_⟩; simp_all; done) | (simp_all; done) | (simp_all; omega))) fun _ => ?_; (try simp [h2, hol3]))
                          exact hq5 _ (by omega) (by omega) (by simp; exact .inl (hset3 _))
                        · rw [if_neg (by simp at h7; omega)] at hq5
                          try simp 
                          repeat (refine PreK.intro (by first | omega | (intros; first | omega | (refine ⟨by omega, ?_⟩; simp_all; done) | (simp_all; done) | (simp_all; omega))) fun _ => ?_; (try simp ))
                          exact hq5 _ (by omega) (by omega) (by simp)
                    · have hi0' : 0 < i := by omega
                      have hi0'' : (0 : Int) < (i : Int) := by omega
                      rw [if_neg hi0] at hq5
                      have hip : i < par.length := by omega
                      have hpf := hx.pfE (show 1 ≤ i by omega) hip
                      have hpi : el par i = ((pf par i : Nat) : Int) := hpf.2.symm
                      have hplt := pf_lt par i (by omega)
                      have hel := outF_el TT S2 Z (pf par i) (by omega)
                      generalize pf par i = m at hpi hplt hel hq5
                      have hmo : m < (outF TT S2 Z).length := by omega
                      have hml : m < own.length := by omega
                      generalize el TT m = e at hel hq5
                      rcases hown with h5 | h6
                      · have h5' : ¬ 0 ≤ el own i := by omega
                        try simp [h2, h5']
                        repeat (refine PreK.intro (by first | omega | (intros; first | omega | (refine ⟨by omega, ?_⟩; simp_all; done) | (simp_all; done) | (simp_all; omega))) fun _ => ?_; (try simp [h2, h5']))
                        refine CondK.ff ?_
                        try simp 
                        try simp [h2, hi0', hi0'', hip, hpi, hol3, hmo, hml, hel]
                        repeat (refine PreK.intro (by first | omega | (intros; first | omega | (refine ⟨by omega, ?_⟩; simp_all; done) | (simp_all; done) | (simp_all; omega))) fun _ => ?_; (try simp [h2, hi0', hi0'', hip, hpi, hol3, hmo, hml, hel]))
                        refine CondK.intro (fun h8 => ?_) (fun h8 => ?_)
                        · simp at h8
                          have hdd : ∀ q : Int, ¬ q = e → dd q e = 1 := fun q h => by unfold dd; rw [if_neg h]
                          rw [hdd _ (by simpa using h8)] at hq5
                          try simp 
                          repeat (refine PreK.intro (by first | omega | (intros; first | omega | (refine ⟨by omega, ?_⟩; simp_all; done) | (simp_all; done) | (simp_all; omega))) fun _ => ?_; (try simp ))
                          refine CondK.intro (fun h7 => ?_) (fun h7 => ?_)
                          · rw [if_pos (by simp at h7; omega)] at hq5
                            try simp [h2, hol3]
                            repeat (refine PreK.intro (by first | omega | (intros; first | omega | (refine ⟨by omega, ?_⟩; simp_all; done) | (simp_all; done) | (simp_all; omega))) fun _ => ?_; (try simp [h2, hol3]))
                            exact hq5 _ (by omega) (by omega) (by simp; exact .inl (hset3 _))
                          · rw [if_neg (by simp at h7; omega)] at hq5
                            try simp 
                            repeat (refine PreK.intro (by first | omega | (intros; first | omega | (refine ⟨by omega, ?_⟩; simp_all; done) | (simp_all; done) | (simp_all; omega))) fun _ => ?_; (try simp ))
                            exact hq5 _ (by omega) (by omega) (by simp)
                        · simp at h8
                          have hdd : ∀ q : Int, q = e → dd q e = 0 := fun q h => by unfold dd; rw [if_pos h]
                          rw [hdd _ (by simpa using h8)] at hq5
                          try simp 
                          repeat (refine PreK.intro (by first | omega | (intros; first | omega | (refine ⟨by omega, ?_⟩; simp_all; done) | (simp_all; done) | (simp_all; omega))) fun _ => ?_; (try simp ))
                          refine CondK.intro (fun h7 => ?_) (fun h7 => ?_)
                          · rw [if_pos (by simp at h7; omega)] at hq5
                            try simp [h2, hol3]
                            repeat (refine PreK.intro (by first | omega | (intros; first | omega | (refine ⟨by omega, ?_⟩; simp_all; done) | (simp_all; done) | (simp_all; omega))) fun _ => ?_; (try simp [h2, hol3]))
                            exact hq5 _ (by omega) (by omega) (by simp; exact .inl (hset3 _))
                          · rw [if_neg (by simp at h7; omega)] at hq5
                            try simp 
                            repeat (refine PreK.intro (by first | omega | (intros; first | omega | (refine ⟨by omega, ?_⟩; simp_all; done) | (simp_all; done) | (simp_all; omega))) fun _ => ?_; (try simp ))
                            exact hq5 _ (by omega) (by omega) (by simp)
                      · simp at h6
                        try simp [h2, h6]
                        repeat (refine PreK.intro (by first | omega | (intros; first | omega | (refine ⟨by omega, ?_⟩; simp_all; done) | (simp_all; done) | (simp_all; omega))) fun _ => ?_; (try simp [h2, h6]))
                        refine CondK.ff ?_
                        try simp 
                        try simp [h2, hi0', hi0'', hip, hpi, hol3, hmo, hml, hel]
                        repeat (refine PreK.intro (by first | omega | (intros; first | omega | (refine ⟨by omega, ?_⟩; simp_all; done) | (simp_all; done) | (simp_all; omega))) fun _ => ?_; (try simp [h2, hi0', hi0'', hip, hpi, hol3, hmo, hml, hel]))
                        refine CondK.intro (fun h8 => ?_) (fun h8 => ?_)
                        · simp at h8
                          have hdd : ∀ q : Int, ¬ q = e → dd q e = 1 := fun q h => by unfold dd; rw [if_neg h]
                          rw [hdd _ (by simpa using h8)] at hq5
                          try simp 
                          repeat (refine PreK.intro (by first | omega | (intros; first | omega | (refine ⟨by omega, ?_⟩; simp_all; done) | (simp_all; done) | (simp_all; omega))) fun _ => ?_; (try simp ))
                          refine CondK.intro (fun h7 => ?_) (fun h7 => ?_)
                          · rw [if_pos (by simp at h7; omega)] at hq5
                            try simp [h2, hol3]
                            repeat (refine PreK.intro (by first | omega | (intros; first | omega | (refine ⟨by omega, ?_⟩; simp_all; done) | (simp_all; done) | (simp_all; omega))) fun _ => ?_; (try simp [h2, hol3]))
                            exact hq5 _ (by omega) (by omega) (by simp; exact .inl (hset3 _))
                          · rw [if_neg (by simp at h7; omega)] at hq5
                            try simp 
                            repeat (refine PreK.intro (by first | omega | (intros; first | omega | (refine ⟨by omega, ?_⟩; simp_all; done) | (simp_all; done) | (simp_all; omega))) fun _ => ?_; (try simp ))
                            exact hq5 _ (by omega) (by omega) (by simp)
                        · simp at h8
                          have hdd : ∀ q : Int, q = e → dd q e = 0 := fun q h => by unfold dd; rw [if_pos h]
                          rw [hdd _ (by simpa using h8)] at hq5
                          try simp 
                          repeat (refine PreK.intro (by first | omega | (intros; first | omega | (refine ⟨by omega, ?_⟩; simp_all; done) | (simp_all; done) | (simp_all; omega))) fun _ => ?_; (try simp ))
                          refine CondK.intro (fun h7 => ?_) (fun h7 => ?_)
                          · rw [if_pos (by simp at h7; omega)] at hq5
                            try simp [h2, hol3]
                            repeat (refine PreK.intro (by first | omega | (intros; first | omega | (refine ⟨by omega, ?_⟩; simp_all; done) | (simp_all; done) | (simp_all; omega))) fun _ => ?_; (try simp [h2, hol3]))
                            exact hq5 _ (by omega) (by omega) (by simp; exact .inl (hset3 _))
                          · rw [if_neg (by simp at h7; omega)] at hq5
                            try simp 
                            repeat (refine PreK.intro (by first | omega | (intros; first | omega | (refine ⟨by omega, ?_⟩; simp_all; done) | (simp_all; done) | (simp_all; omega))) fun _ => ?_; (try simp ))
                            exact hq5 _ (by omega) (by omega) (by simp)
                · have hal' : alM own i r = false := by simpa using hal
                  rw [if_pos hal'] at hq5
                  have h5 : 0 ≤ el own i := by simp [alM] at hal'; omega
                  have h6 : ¬ el own i = (r : Int) := by simp [alM] at hal'; omega
                  have hrc : r = 0 ∨ r = 1 ∨ r = 2 := by omega
                  rcases hrc with rfl | rfl | rfl
                  all_goals
                    simp at h6
                    try simp 
                    repeat (refine PreK.intro (by first | omega | (intros; first | omega | (refine ⟨by omega, ?_⟩; simp_all; done) | (simp_all; done) | (simp_all; omega))) fun _ => ?_; (try simp ))
                    refine CondK.tt ?_
                    try simp 
                    try simp [h2, h5, h6]
                    repeat (refine PreK.intro (by first | omega | (intros; first | omega | (refine ⟨by omega, ?_⟩; simp_all; done) | (simp_all; done) | (simp_all; omega))) fun _ => ?_; (try simp [h2, h5, h6]))
                    refine CondK.tt ?_
                    try simp 
                    try simp 
                    repeat (refine PreK.intro (by first | omega | (intros; first | omega | (refine ⟨by omega, ?_⟩; simp_all; done) | (simp_all; done) | (simp_all; omega))) fun _ => ?_; (try simp ))
                    exact hq5 _ (by omega) (by omega) (by simp)
              · have h3' : ¬ (r : Int) < 3 := by omega
                obtain rfl : r = 3 := by omega
                try simp [h3']
                repeat (refine PreK.intro (by first | omega | (intros; first | omega | (refine ⟨by omega, ?_⟩; simp_all; done) | (simp_all; done) | (simp_all; omega))) fun _ => ?_; (try simp [h3']))
                refine CondK.ff ?_
                try simp 
                apply he4
                repeat (refine PreK.intro (by first | omega | (intros; first | omega | (refine ⟨by omega, ?_⟩; simp_all; done) | (simp_all; done) | (simp_all; omega))) fun _ => ?_; (try simp ))
                exact hq' _ (by omega) (by omega) (by simp)
            · simp at h2
              obtain rfl : i = own.length := by omega
              have eR : outG (topD F (alM own) (pf par) own.length) (own.length - own.length) = readM par own := by
                rw [Nat.sub_self]
                unfold outG readM
                rw [hFc, hol]
                simp
              have hrl := readM_len par own
              rw [eR]
              try simp 
              apply he
              try simp 
              rw [← hR]
              refine ⟨[], ?_⟩
              simp [frzs]
              repeat (refine PreK.intro (by first | omega | (intros; first | omega | (refine ⟨by omega, ?_⟩; simp_all; done) | (simp_all; done) | (simp_all; omega))) fun _ => ?_; (try simp [hrl, hol]))
              exact List.take_of_length_le (by simp [hrl])
        · have hi0' : ¬ (i : Int) = 0 := by omega
          have hip : i < par.length := by omega
          have hpf := hx.pfE (show 1 ≤ i by omega) hip
          have hpi : el par i = ((pf par i : Nat) : Int) := hpf.2.symm
          have hplt := pf_lt par i (by omega)
          have hadd := addN_all 17 (alM own) (pf par) i hi0 b own.length
          have hsb := step_bound (M := 17) (B := 17 * ((k : Int) + 1)) (al := alM own) (p := pf par) (i := i) (b := b) (by decide) (by omega) hbd
          generalize hm : pf par i = m at hpi hplt hadd
          generalize hfc : forb 17 (alM own) i b = fb at hfb hadd
          try simp [hi0', hi0]
          repeat (refine PreK.intro (by first | omega | (intros; first | omega | (refine ⟨by omega, ?_⟩; simp_all; done) | (simp_all; done) | (simp_all; omega))) fun _ => ?_; (try simp [hi0', hi0]))
          refine CondK.ff ?_
          try simp 
          repeat (refine PreK.intro (by first | omega | (intros; first | omega | (refine ⟨by omega, ?_⟩; simp_all; done) | (simp_all; done) | (simp_all; omega))) fun _ => ?_; (try simp [hip, hpi]))
          rw [← addN_zero 17 i m fb own.length]
          refine LoopK.by (ι := Nat) (fun r => ⟨[(68, iv r), (13, iv m), (11, iv i), (10, .pt 10 0 0 0)], [(4, some ⟨2, [treeV par ats], 0, true⟩), (8, some ⟨1, [ints own], 0, true⟩), (10, some ⟨1, [.sl 34 0 0 own.length], 0, true⟩), (34, some ⟨3, rowsB (addN 17 i m fb r) own.length, 0, false⟩)]⟩)
            (fun r => 3 - r) (fun r => r ≤ 3) 0 (by decide) (by simp) ?_
          clear hq3 hq2 he2 hrr2 hsk hht hnth hlen e3 e3' hr3 h1 h1'
          intro r Q3 hr3 hq3 he3 hrr3
          have hlen := rowsB_len (addN 17 i m fb r) own.length
          have hnth := nth_rows (b := addN 17 i m fb r) hil
          have hnm := nth_rows (b := addN 17 i m fb r) (show m < own.length by omega)
          have hci : ∀ q, addN 17 i m fb r i q = fb i q := fun q => by simp [addN]; omega
          have hcm : addN 17 i m fb r m r = fb m r := by simp [addN]
          have hq4 := hq3 (r + 1)
          have hsu : addN 17 i m fb ((r + 1 : Nat) : Int) = fun j q => if j = m ∧ q = (r : Int) then fb m r + leastF 17 (fb i) r else addN 17 i m fb r j q := addN_succ (q := (r : Int))
          rw [hsu] at hq4
          have hf0 := hfb i 0
          have hf1 := hfb i 1
          have hf2 := hfb i 2
          have hfm := hfb m r
          by_cases h1 : r < 3
          · have h1' : (r : Int) < 3 := by omega
            try simp [h1']
            repeat (refine PreK.intro (by first | omega | (intros; first | omega | (refine ⟨by omega, ?_⟩; simp_all; done) | (simp_all; done) | (simp_all; omega))) fun _ => ?_; (try simp [h1']))
            refine CondK.tt ?_
            try simp 
            repeat (refine PreK.intro (by first | omega | (intros; first | omega | (refine ⟨by omega, ?_⟩; simp_all; done) | (simp_all; done) | (simp_all; omega))) fun _ => ?_; (try simp [hil, hlen, hnth, hci]))
            refine LoopK.by (ι := Nat) (fun q => ⟨[(75, iv q), (74, .agg [.raw (.int .i64 (fb i 0)), .raw (.int .i64 (fb i 1)), .raw (.int .i64 (fb i 2))]), (15, iv (leastN 17 (fb i) r q)), (14, iv r), (68, iv r), (13, iv m), (11, iv i), (10, .pt 10 0 0 0)], [(4, some ⟨2, [treeV par ats], 0, true⟩), (8, some ⟨1, [ints own], 0, true⟩), (10, some ⟨1, [.sl 34 0 0 own.length], 0, true⟩), (34, some ⟨3, rowsB (addN 17 i m fb r) own.length, 0, false⟩)]⟩)
              (fun q => 3 - q) (fun q => q ≤ 3) 0 (by decide) (by simp [leastN]) ?_
            intro q Q5 hq35 hq5 he5 hr5
            have hlb := leastN_bound (M := 17) (f := fb i) (r := r) (by decide) (fun q => (hfb i q).1) q
            have hq6 := hq5 (q + 1)
            rw [leastN] at hq6
            by_cases h2 : q < 3
            · have hqc : q = 0 ∨ q = 1 ∨ q = 2 := by omega
              generalize leastN 17 (fb i) r q = S at hlb hq6
              rcases hqc with rfl | rfl | rfl
              · try simp 
                refine CondK.tt ?_
                try simp 
                repeat (refine PreK.intro (by first | omega | (intros; first | omega | (refine ⟨by omega, ?_⟩; simp_all; done) | (simp_all; done) | (simp_all; omega))) fun _ => ?_; (try simp ))
                refine CondK.intro (fun h3 => ?_) (fun h3 => ?_)
                · have hdd : dd ((0 : Nat) : Int) r = 1 := by unfold dd; rw [if_neg (by simp at h3; omega)]
                  rw [hdd, Int.min_def] at hq6
                  repeat (refine PreK.intro (by first | omega | (intros; first | omega | (refine ⟨by omega, ?_⟩; simp_all; done) | (simp_all; done) | (simp_all; omega))) fun _ => ?_; (try simp ))
                  have hmm : (if fb i 0 + 1 < S then fb i 0 + 1 else S) = if S ≤ fb i ((0 : Nat) : Int) + 1 then S else fb i ((0 : Nat) : Int) + 1 := by
                    by_cases hc : fb i 0 + 1 < S
                    · rw [if_pos hc, if_neg (by simpa using hc)]; rfl
                    · rw [if_neg hc, if_pos (by simpa using hc)]
                  rw [← hmm] at hq6
                  exact hq6 _ (by omega) (by omega) (by simp)
                · have hdd : dd ((0 : Nat) : Int) r = 0 := by unfold dd; rw [if_pos (by simp at h3; omega)]
                  rw [hdd, Int.min_def] at hq6
                  repeat (refine PreK.intro (by first | omega | (intros; first | omega | (refine ⟨by omega, ?_⟩; simp_all; done) | (simp_all; done) | (simp_all; omega))) fun _ => ?_; (try simp ))
                  have hmm : (if fb i 0 < S then fb i 0 else S) = if S ≤ fb i ((0 : Nat) : Int) + 0 then S else fb i ((0 : Nat) : Int) + 0 := by
                    by_cases hc : fb i 0 < S
                    · rw [if_pos hc, if_neg (by simpa using hc)]; simp
                    · rw [if_neg hc, if_pos (by simpa using hc)]
                  rw [← hmm] at hq6
                  exact hq6 _ (by omega) (by omega) (by simp)
              · try simp 
                refine CondK.tt ?_
                try simp 
                repeat (refine PreK.intro (by first | omega | (intros; first | omega | (refine ⟨by omega, ?_⟩; simp_all; done) | (simp_all; done) | (simp_all; omega))) fun _ => ?_; (try simp ))
                refine CondK.intro (fun h3 => ?_) (fun h3 => ?_)
                · have hdd : dd ((1 : Nat) : Int) r = 1 := by unfold dd; rw [if_neg (by simp at h3; omega)]
                  rw [hdd, Int.min_def] at hq6
                  repeat (refine PreK.intro (by first | omega | (intros; first | omega | (refine ⟨by omega, ?_⟩; simp_all; done) | (simp_all; done) | (simp_all; omega))) fun _ => ?_; (try simp ))
                  have hmm : (if fb i 1 + 1 < S then fb i 1 + 1 else S) = if S ≤ fb i ((1 : Nat) : Int) + 1 then S else fb i ((1 : Nat) : Int) + 1 := by
                    by_cases hc : fb i 1 + 1 < S
                    · rw [if_pos hc, if_neg (by simpa using hc)]; rfl
                    · rw [if_neg hc, if_pos (by simpa using hc)]
                  rw [← hmm] at hq6
                  exact hq6 _ (by omega) (by omega) (by simp)
                · have hdd : dd ((1 : Nat) : Int) r = 0 := by unfold dd; rw [if_pos (by simp at h3; omega)]
                  rw [hdd, Int.min_def] at hq6
                  repeat (refine PreK.intro (by first | omega | (intros; first | omega | (refine ⟨by omega, ?_⟩; simp_all; done) | (simp_all; done) | (simp_all; omega))) fun _ => ?_; (try simp ))
                  have hmm : (if fb i 1 < S then fb i 1 else S) = if S ≤ fb i ((1 : Nat) : Int) + 0 then S else fb i ((1 : Nat) : Int) + 0 := by
                    by_cases hc : fb i 1 < S
                    · rw [if_pos hc, if_neg (by simpa using hc)]; simp
                    · rw [if_neg hc, if_pos (by simpa using hc)]
                  rw [← hmm] at hq6
                  exact hq6 _ (by omega) (by omega) (by simp)
              · try simp 
                refine CondK.tt ?_
                try simp 
                repeat (refine PreK.intro (by first | omega | (intros; first | omega | (refine ⟨by omega, ?_⟩; simp_all; done) | (simp_all; done) | (simp_all; omega))) fun _ => ?_; (try simp ))
                refine CondK.intro (fun h3 => ?_) (fun h3 => ?_)
                · have hdd : dd ((2 : Nat) : Int) r = 1 := by unfold dd; rw [if_neg (by simp at h3; omega)]
                  rw [hdd, Int.min_def] at hq6
                  repeat (refine PreK.intro (by first | omega | (intros; first | omega | (refine ⟨by omega, ?_⟩; simp_all; done) | (simp_all; done) | (simp_all; omega))) fun _ => ?_; (try simp ))
                  have hmm : (if fb i 2 + 1 < S then fb i 2 + 1 else S) = if S ≤ fb i ((2 : Nat) : Int) + 1 then S else fb i ((2 : Nat) : Int) + 1 := by
                    by_cases hc : fb i 2 + 1 < S
                    · rw [if_pos hc, if_neg (by simpa using hc)]; rfl
                    · rw [if_neg hc, if_pos (by simpa using hc)]
                  rw [← hmm] at hq6
                  exact hq6 _ (by omega) (by omega) (by simp)
                · have hdd : dd ((2 : Nat) : Int) r = 0 := by unfold dd; rw [if_pos (by simp at h3; omega)]
                  rw [hdd, Int.min_def] at hq6
                  repeat (refine PreK.intro (by first | omega | (intros; first | omega | (refine ⟨by omega, ?_⟩; simp_all; done) | (simp_all; done) | (simp_all; omega))) fun _ => ?_; (try simp ))
                  have hmm : (if fb i 2 < S then fb i 2 else S) = if S ≤ fb i ((2 : Nat) : Int) + 0 then S else fb i ((2 : Nat) : Int) + 0 := by
                    by_cases hc : fb i 2 < S
                    · rw [if_pos hc, if_neg (by simpa using hc)]; simp
                    · rw [if_neg hc, if_pos (by simpa using hc)]
                  rw [← hmm] at hq6
                  exact hq6 _ (by omega) (by omega) (by simp)
            · obtain rfl : q = 3 := by omega
              try simp 
              refine CondK.ff ?_
              try simp 
              apply he5
              rw [leastN_all] at hlb
              have hml : m < own.length := by omega
              first | rw [leastN_all] | skip
              generalize addN 17 i m fb (r : Int) = c at hlen hnth hnm hci hcm hq4
              generalize leastF 17 (fb i) r = LL at hlb hq4
              have hrc : r = 0 ∨ r = 1 ∨ r = 2 := by omega
              rcases hrc with rfl | rfl | rfl
              all_goals
                simp at hcm hfm
                try simp [hml, hlen, hnm, hcm]
                repeat (refine PreK.intro (by first | omega | (intros; first | omega | (refine ⟨by omega, ?_⟩; simp_all; done) | (simp_all; done) | (simp_all; omega))) fun _ => ?_; (try simp [hml, hlen, hnm, hcm]))
                exact hq4 _ (by omega) (by omega) (by simp; exact .inl (rowsB_set _ _ _ (fun j _ hne => by simp [hne]) (by simp)))
          · have h1' : ¬ (r : Int) < 3 := by omega
            obtain rfl : r = 3 := by omega
            try simp [h1']
            repeat (refine PreK.intro (by first | omega | (intros; first | omega | (refine ⟨by omega, ?_⟩; simp_all; done) | (simp_all; done) | (simp_all; omega))) fun _ => ?_; (try simp [h1']))
            refine CondK.ff ?_
            try simp 
            apply he3
            have hri : own.length - (k + 1) = i := by omega
            refine hn (dpStep 17 (alM own) (pf par) i b) _ ⟨by omega, by rw [hri]; exact hrun, fun j r => ⟨(hsb j r).1, by have := (hsb j r).2; omega⟩⟩ ?_
            simp
            exact hadd
    · rintro b ⟨h, _⟩
      rw [backL_len] at h
      omega
end Go.Proofs.Ytnpkaemlidifgaa
end

section
/- PURSE -/
/- Contracts: the document's smallest number of changes. -/
namespace Go.Proofs.Ytnpkaemlidifgaa
open Go.Abs Go
set_option maxRecDepth 20000
set_option maxHeartbeats 8000000
attribute [local irreducible] PreK CondK CallK CallG CallX LoopK
attribute [local simp] avsEq avEq akind teq vkind vEq

end Go.Proofs.Ytnpkaemlidifgaa
end

section
/- Contracts: the fewest changes, readings, totals, claimed readings, copies apart; by both ways. -/
namespace Go.Proofs.Ytnpkaemlidifgaa
open Go.Abs Go
set_option maxRecDepth 20000
set_option maxHeartbeats 2000000
attribute [local irreducible] PreK CondK CallK CallG CallX LoopK
attribute [local simp] avsEq avEq akind teq vkind vEq

theorem fits_zero {t : List (List Int)} {par ats ps : List Int} (h : fitsErr t par ats ps = 0) : Rds t ∧ Treed par ats ∧ ats.length = t.length ∧ placedErr t ps = 0 ∧ treedErr t par ats = 0 := by
  unfold fitsErr at h
  split at h
  · rename_i h1; exact absurd h h1
  · rename_i h1
    have h1' : treedErr t par ats = 0 := by simpa using h1
    have h2 := h1'
    unfold treedErr at h2
    split at h2
    · rename_i h3; exact absurd h2 h3
    · rename_i h3
      split at h2
      · rename_i h4; exact absurd h2 h4
      · rename_i h4
        split at h2
        · cases h2
        · rename_i h5
          exact ⟨vErr_zero (by simpa using h3), treeErr_zero (by simpa using h4), by simpa using h5, h, h1'⟩
def FewR (t : List (List Int)) (par ats : List Int) (p : Int) : Int × Bool × Int :=
  if fitsErr t par ats [p] ≠ 0 then (0, false, fitsErr t par ats [p]) else match bestR par (prs t ats p.toNat) with | some o => (chgM par o, true, 0) | none => (0, false, 0)
def ReadR (t : List (List Int)) (par ats : List Int) (p : Int) : List Int × Bool × Int :=
  if fitsErr t par ats [p] ≠ 0 then ([], false, fitsErr t par ats [p]) else match bestR par (prs t ats p.toNat) with | some o => (o, true, 0) | none => ([], false, 0)
theorem Fewest_c (t : List (List Int)) (par ats : List Int) (p : Int) (h : Sm t) (hp : par.length ≤ 1000) (ha : ats.length ≤ 1000) :
    CallP Try.prog 21 [rdsV t, treeV par ats, iv p] (.tup [iv (FewR t par ats p).1, bv (FewR t par ats p).2.1, iv (FewR t par ats p).2.2]) := by
  refine C21 (by simp) ?_
  have hf := fits_c t par ats [p] h hp ha (by simp)
  simp [A21]
  refine CallX.pure (CallP.weak (by simpa [weakL, weak] using hf)) (by simp) (by simp) ?_
  try simp 
  refine CondK.intro (fun h1 => ?_) (fun h1 => ?_)
  · simp at h1
    simp [FewR, h1]
  · simp at h1
    obtain ⟨hr, hx, hl, hpl, _⟩ := fits_zero h1
    obtain ⟨n, rfl, hn⟩ := placed_nat hpl (List.mem_singleton.2 rfl)
    have hb := best_c t par ats n hr hx hl hn
    have hR : FewR t par ats n = match bestR par (prs t ats n) with | some o => (chgM par o, true, 0) | none => (0, false, 0) := by unfold FewR; rw [if_neg (by simp [h1])]; rfl
    rw [hR]
    cases hbr : bestR par (prs t ats n) with
    | none =>
      rw [hbr] at hb
      try simp 
      repeat' (first
        | (refine CallX.pure (hb) (by simp) (by simp) ?_; try simp )
        | (refine CallK.intro (hb) (by simp) (by simp) ?_; try simp )
        | (refine CallG.intro (fun _ => hb) (by simp) (by simp) ?_; try simp )
        | ((with_reducible refine PreK.intro ?_ ?_); (next => (first | omega | (intros; first | omega | (refine ⟨by omega, ?_⟩; repeat (first | assumption | constructor)) | assumption))); intro _; try simp )
        | fail)
      refine CondK.tt ?_
      try simp 
    | some o =>
      rw [hbr] at hb
      have hol := (best_fits hr hx hl hn hbr).1
      try simp 
      repeat' (first
        | (refine CallX.pure (hb) (by simp) (by simp) ?_; try simp )
        | (refine CallK.intro (hb) (by simp) (by simp) ?_; try simp )
        | (refine CallG.intro (fun _ => hb) (by simp) (by simp) ?_; try simp )
        | ((with_reducible refine PreK.intro ?_ ?_); (next => (first | omega | (intros; first | omega | (refine ⟨by omega, ?_⟩; repeat (first | assumption | constructor)) | assumption))); intro _; try simp )
        | fail)
      refine CondK.ff ?_
      try simp 
      try simp 
      repeat' (first
        | (refine CallX.pure (changes_c par ats o hx hol) (by simp) (by simp) ?_; try simp )
        | (refine CallK.intro (changes_c par ats o hx hol) (by simp) (by simp) ?_; try simp )
        | (refine CallG.intro (fun _ => changes_c par ats o hx hol) (by simp) (by simp) ?_; try simp )
        | ((with_reducible refine PreK.intro ?_ ?_); (next => (first | omega | (intros; first | omega | (refine ⟨by omega, ?_⟩; repeat (first | assumption | constructor)) | assumption))); intro _; try simp )
        | fail)
theorem Readings_c (t : List (List Int)) (par ats : List Int) (p : Int) (h : Sm t) (hp : par.length ≤ 1000) (ha : ats.length ≤ 1000) :
    CallP Try.prog 24 [rdsV t, treeV par ats, iv p] (.tup [ints (ReadR t par ats p).1, bv (ReadR t par ats p).2.1, iv (ReadR t par ats p).2.2]) := by
  refine C24 (by simp) ?_
  have hf := fits_c t par ats [p] h hp ha (by simp)
  simp [A24]
  refine CallX.pure (CallP.weak (by simpa [weakL, weak] using hf)) (by simp) (by simp) ?_
  try simp 
  refine CondK.intro (fun h1 => ?_) (fun h1 => ?_)
  · simp at h1
    simp [ReadR, h1]
  · simp at h1
    obtain ⟨hr, hx, hl, hpl, _⟩ := fits_zero h1
    obtain ⟨n, rfl, hn⟩ := placed_nat hpl (List.mem_singleton.2 rfl)
    have hb := best_c t par ats n hr hx hl hn
    have hR : ReadR t par ats n = match bestR par (prs t ats n) with | some o => (o, true, 0) | none => ([], false, 0) := by unfold ReadR; rw [if_neg (by simp [h1])]; rfl
    rw [hR]
    cases hbr : bestR par (prs t ats n) with
    | none =>
      rw [hbr] at hb
      try simp 
      repeat' (first
        | (refine CallX.pure (hb) (by simp) (by simp) ?_; try simp )
        | (refine CallK.intro (hb) (by simp) (by simp) ?_; try simp )
        | (refine CallG.intro (fun _ => hb) (by simp) (by simp) ?_; try simp )
        | ((with_reducible refine PreK.intro ?_ ?_); (next => (first | omega | (intros; first | omega | (refine ⟨by omega, ?_⟩; repeat (first | assumption | constructor)) | assumption))); intro _; try simp )
        | fail)
    | some o =>
      rw [hbr] at hb
      try simp 
      repeat' (first
        | (refine CallX.pure (hb) (by simp) (by simp) ?_; try simp )
        | (refine CallK.intro (hb) (by simp) (by simp) ?_; try simp )
        | (refine CallG.intro (fun _ => hb) (by simp) (by simp) ?_; try simp )
        | ((with_reducible refine PreK.intro ?_ ?_); (next => (first | omega | (intros; first | omega | (refine ⟨by omega, ?_⟩; repeat (first | assumption | constructor)) | assumption))); intro _; try simp )
        | fail)
def TotR (t : List (List Int)) (par ats : List Int) : Int × Bool × Int :=
  if fitsErr t par ats [] ≠ 0 then (0, false, fitsErr t par ats []) else match totM t par ats with | some s => (s, true, 0) | none => (0, false, 0)
theorem chgM_bound {par : List Int} (h : par.length ≤ 16) (rd : List Int) : 0 ≤ chgM par rd ∧ chgM par rd ≤ 16 := by
  have h1 := chg_nn (pf par) (el rd) (par.length - 1)
  have h2 := chg_le (pf par) (el rd) (par.length - 1)
  unfold chgM
  omega
theorem Total_c (t : List (List Int)) (par ats : List Int) (h : Sm t) (hp : par.length ≤ 1000) (ha : ats.length ≤ 1000) :
    CallP Try.prog 47 [rdsV t, treeV par ats] (.tup [iv (TotR t par ats).1, bv (TotR t par ats).2.1, iv (TotR t par ats).2.2]) := by
  refine C47 (by simp) ?_
  have hf := fits_c t par ats [] h hp ha (by simp)
  simp [A47]
  refine CallX.pure (by simpa using hf) (by simp) (by simp) ?_
  try simp 
  refine CondK.intro (fun h1 => ?_) (fun h1 => ?_)
  · simp at h1
    simp [TotR, h1]
  · simp at h1
    obtain ⟨hr, hx, hl, hpl, _⟩ := fits_zero h1
    have e0 : 0 < t.length := hr.pos
    have hwd : (el t 0).length = wid t := rfl
    have hw6 := hr.w6
    have htop := hx.top
    have hR : TotR t par ats = match totM t par ats with | some s => (s, true, 0) | none => (0, false, 0) := by unfold TotR; rw [if_neg (by simp [h1])]
    rw [hR]
    generalize hM : totM t par ats = M
    unfold totM at hM
    try simp [e0, hwd]
    repeat (refine PreK.intro (by first | omega | (intros; first | omega | (refine ⟨by omega, ?_⟩; simp_all; done) | (simp_all; done) | (simp_all; omega))) fun _ => ?_; (try simp [e0, hwd]))
    refine LoopK.by (ι := Nat × Int) (fun x => ⟨[(22, iv x.1), (21, iv (wid t)), (8, iv x.2), (3, .pt 3 1 0 0), (0, rdsV t)], [(3, some ⟨2, [treeV par ats], 1, true⟩)]⟩) (fun x => wid t - x.1)
      (fun x => x.1 ≤ wid t ∧ 0 ≤ x.2 ∧ x.2 ≤ 16 * (x.1 : Int) ∧ (totF t par ats x.1 (wid t - x.1)).map (fun s => x.2 + s) = M) (0, 0) ⟨Nat.zero_le _, by simp, by simp, by simpa using hM⟩ (by simp) ?_
    intro ⟨p, s⟩ Q' ⟨hpw, hs0, hs1, hc⟩ hq he hr'
    dsimp only at hpw hs0 hs1 hc
    try simp 
    refine CondK.intro (fun h2 => ?_) (fun h2 => ?_)
    · simp at h2
      have hb := best_c t par ats p hr hx hl h2
      rw [show wid t - p = (wid t - (p + 1)) + 1 by omega, totF] at hc
      cases hbr : bestR par (prs t ats p) with
      | none =>
        rw [hbr] at hb hc
        simp only [Option.map_none] at hc
        subst hc
        try simp 
        repeat' (first
          | (refine CallX.pure (hb) (by simp) (by simp) ?_; try simp )
          | (refine CallK.intro (hb) (by simp) (by simp) ?_; try simp )
          | (refine CallG.intro (fun _ => hb) (by simp) (by simp) ?_; try simp )
          | ((with_reducible refine PreK.intro ?_ ?_); (next => (first | omega | (intros; first | omega | (refine ⟨by omega, ?_⟩; repeat (first | assumption | constructor)) | assumption))); intro _; try simp )
          | fail)
        refine CondK.tt ?_
        try simp 
        apply hr'
        try simp 
      | some o =>
        rw [hbr] at hb hc
        simp only at hc
        have hol := (best_fits hr hx hl h2 hbr).1
        have hcb := chgM_bound htop o
        try simp 
        repeat' (first
          | (refine CallX.pure (hb) (by simp) (by simp) ?_; try simp )
          | (refine CallK.intro (hb) (by simp) (by simp) ?_; try simp )
          | (refine CallG.intro (fun _ => hb) (by simp) (by simp) ?_; try simp )
          | ((with_reducible refine PreK.intro ?_ ?_); (next => (first | omega | (intros; first | omega | (refine ⟨by omega, ?_⟩; repeat (first | assumption | constructor)) | assumption))); intro _; try simp )
          | fail)
        refine CondK.ff ?_
        try simp 
        try simp 
        repeat' (first
          | (refine CallX.pure (changes_c par ats o hx hol) (by simp) (by simp) ?_; try simp )
          | (refine CallK.intro (changes_c par ats o hx hol) (by simp) (by simp) ?_; try simp )
          | (refine CallG.intro (fun _ => changes_c par ats o hx hol) (by simp) (by simp) ?_; try simp )
          | ((with_reducible refine PreK.intro ?_ ?_); (next => (first | omega | (intros; first | omega | (refine ⟨by omega, ?_⟩; repeat (first | assumption | constructor)) | assumption))); intro _; try simp )
          | fail)
        refine hq (p + 1, s + chgM par o) _ ⟨by dsimp only; omega, by dsimp only; omega, by dsimp only; omega, ?_⟩ (by dsimp only; omega) (by simp)
        rw [← hc, Option.map_map]
        congr 1
        funext z
        simp only [Function.comp]
        omega
    · simp at h2
      have : p = wid t := by omega
      subst this
      simp only [Nat.sub_self, totF, Option.map_some, Int.add_zero] at hc
      subst hc
      try simp 
      apply he
      try simp 
end Go.Proofs.Ytnpkaemlidifgaa
end

section
/- Functions of the cut as the value layer reads them. (written by gen.py) -/
set_option maxRecDepth 20000
namespace Go.Proofs.Ytnpkaemlidifgaa
open Go.Abs Go

def A17 : ACode :=
  (.seq (.reg [] [⟨some 3, (.box 25 (.tmp 1)), 0, none⟩,
      ⟨some 4, (.assign (.const (.bool false))), 4, none⟩])
    (.seq (.reg [] [⟨some 40, (.buildSlice 23 2 #[(0, (.const (.int .i64 0))), (1, (.const (.int .i64 0)))]), 23, none⟩,
      ⟨some 41, (.buildSlice 23 2 #[(0, (.const (.int .i64 1))), (1, (.const (.int .i64 1)))]), 23, none⟩,
      ⟨some 42, (.buildSlice 22 2 #[(0, (.tmp 40)), (1, (.tmp 41))]), 22, none⟩,
      ⟨some 43, (.buildSlice 23 2 #[(0, (.const (.int .i64 (-1)))), (1, (.const (.int .i64 0)))]), 23, none⟩,
      ⟨some 44, (.buildSlice 23 2 #[(0, (.const (.int .i64 0))), (1, (.const (.int .i64 1)))]), 23, none⟩,
      ⟨some 45, (.build 25 #[(0, (.tmp 43)), (1, (.tmp 44))]), 25, none⟩,
      ⟨some 46, (.call ⟨(.value (.func 47)), #[(.tmp 42), (.tmp 45)], #[22, 25]⟩), 30, none⟩,
      ⟨some 39, (.move (.tmp 46)), 30, none⟩,
      ⟨some 47, (.extract (.tmp 39) 0), 3, none⟩,
      ⟨some 48, (.extract (.tmp 39) 1), 4, none⟩,
      ⟨some 49, (.extract (.tmp 39) 2), 29, none⟩,
      ⟨some 5, (.assign (.tmp 47)), 3, none⟩,
      ⟨some 6, (.assign (.tmp 48)), 4, none⟩,
      ⟨some 7, (.assign (.tmp 49)), 29, none⟩])
    (.seq (.seq (.reg [] [⟨some 50, (.move (.tmp 7)), 29, none⟩,
      ⟨some 51, (.binOp .neq 29 (.tmp 50) (.const (.int .i64 0)) 29), 4, none⟩,
      ⟨some 52, (.move (.tmp 51)), 4, none⟩,
      ⟨some 53, (.move (.tmp 6)), 4, some (52, false)⟩,
      ⟨some 54, (.unOp .not 4 (.tmp 53)), 4, some (52, false)⟩,
      ⟨some 55, (.pick (.tmp 52) (.const (.bool true)) (.tmp 54)), 4, none⟩,
      ⟨some 56, (.move (.tmp 55)), 4, none⟩,
      ⟨some 57, (.move (.tmp 5)), 3, some (56, false)⟩,
      ⟨some 58, (.binOp .neq 3 (.tmp 57) (.const (.int .i64 2)) 3), 4, some (56, false)⟩,
      ⟨some 59, (.pick (.tmp 56) (.const (.bool true)) (.tmp 58)), 4, none⟩])
    (.cond (.tmp 59)
    (.seq (.reg [] [⟨some 4, (.assign (.const (.bool false))), 4, none⟩])
    .ret)
    .skip))
    (.seq (.seq (.reg [] [⟨some 60, (.move (.tmp 0)), 22, none⟩,
      ⟨some 61, (.call ⟨(.value (.func 18)), #[(.tmp 60)], #[22]⟩), 4, none⟩,
      ⟨some 62, (.move (.tmp 61)), 4, none⟩,
      ⟨some 63, (.load 25 (.tmp 3)), 25, some (62, false)⟩,
      ⟨some 64, (.call ⟨(.value (.func 19)), #[(.tmp 63)], #[25]⟩), 4, some (62, false)⟩,
      ⟨some 65, (.pick (.tmp 62) (.const (.bool true)) (.tmp 64)), 4, none⟩])
    (.cond (.tmp 65)
    (.seq (.reg [] [⟨some 4, (.assign (.const (.bool true))), 4, none⟩])
    .ret)
    .skip))
    (.seq (.reg [] [⟨some 67, (.move (.tmp 0)), 22, none⟩,
      ⟨some 68, (.call ⟨(.value (.func 41)), #[(.tmp 67)], #[22]⟩), 48, none⟩,
      ⟨some 66, (.move (.tmp 68)), 48, none⟩,
      ⟨some 69, (.extract (.tmp 66) 0), 4, none⟩,
      ⟨some 70, (.extract (.tmp 66) 1), 29, none⟩,
      ⟨some 8, (.assign (.tmp 69)), 4, none⟩,
      ⟨some 7, (.assign (.tmp 70)), 29, none⟩])
    (.seq (.seq (.reg [] [⟨some 71, (.move (.tmp 7)), 29, none⟩,
      ⟨some 72, (.binOp .neq 29 (.tmp 71) (.const (.int .i64 0)) 29), 4, none⟩])
    (.cond (.tmp 72)
    (.seq (.reg [] [⟨some 73, (.move (.tmp 0)), 22, none⟩,
      ⟨some 74, (.call ⟨(.value (.func 34)), #[(.tmp 73)], #[22]⟩), 29, none⟩,
      ⟨some 75, (.move (.tmp 7)), 29, none⟩,
      ⟨some 76, (.binOp .eql 29 (.tmp 74) (.tmp 75) 29), 4, none⟩,
      ⟨some 4, (.assign (.tmp 76)), 4, none⟩])
    .ret)
    .skip))
    (.seq (.reg [] [⟨some 78, (.move (.tmp 0)), 22, none⟩,
      ⟨some 79, (.call ⟨(.value (.func 58)), #[(.tmp 78)], #[22]⟩), 66, none⟩,
      ⟨some 77, (.move (.tmp 79)), 66, none⟩,
      ⟨some 80, (.extract (.tmp 77) 0), 25, none⟩,
      ⟨some 81, (.extract (.tmp 77) 1), 4, none⟩,
      ⟨some 82, (.extract (.tmp 77) 2), 29, none⟩,
      ⟨some 9, (.alloc 25), 0, none⟩,
      ⟨none, (.store 25 (.tmp 9) (.tmp 80)), 0, none⟩,
      ⟨some 10, (.assign (.tmp 81)), 4, none⟩,
      ⟨some 11, (.assign (.tmp 82)), 29, none⟩])
    (.seq (.reg [] [⟨some 84, (.move (.tmp 0)), 22, none⟩,
      ⟨some 85, (.call ⟨(.value (.func 56)), #[(.tmp 84)], #[22]⟩), 64, none⟩,
      ⟨some 83, (.move (.tmp 85)), 64, none⟩,
      ⟨some 86, (.extract (.tmp 83) 0), 23, none⟩,
      ⟨some 87, (.extract (.tmp 83) 1), 29, none⟩,
      ⟨some 12, (.assign (.tmp 86)), 23, none⟩,
      ⟨some 13, (.assign (.tmp 87)), 29, none⟩])
    (.seq (.reg [] [⟨some 89, (.move (.tmp 0)), 22, none⟩,
      ⟨some 90, (.call ⟨(.value (.func 39)), #[(.tmp 89)], #[22]⟩), 51, none⟩,
      ⟨some 88, (.move (.tmp 90)), 51, none⟩,
      ⟨some 91, (.extract (.tmp 88) 0), 50, none⟩,
      ⟨some 92, (.extract (.tmp 88) 1), 29, none⟩,
      ⟨some 14, (.assign (.tmp 91)), 50, none⟩,
      ⟨some 15, (.assign (.tmp 92)), 29, none⟩])
    (.seq (.seq (.reg [] [⟨some 93, (.move (.tmp 11)), 29, none⟩,
      ⟨some 94, (.binOp .neq 29 (.tmp 93) (.const (.int .i64 0)) 29), 4, none⟩,
      ⟨some 95, (.move (.tmp 94)), 4, none⟩,
      ⟨some 96, (.move (.tmp 10)), 4, some (95, false)⟩,
      ⟨some 97, (.move (.tmp 8)), 4, some (95, false)⟩,
      ⟨some 98, (.binOp .neq 4 (.tmp 96) (.tmp 97) 4), 4, some (95, false)⟩,
      ⟨some 99, (.pick (.tmp 95) (.const (.bool true)) (.tmp 98)), 4, none⟩,
      ⟨some 100, (.move (.tmp 99)), 4, none⟩,
      ⟨some 101, (.move (.tmp 13)), 29, some (100, false)⟩,
      ⟨some 102, (.binOp .neq 29 (.tmp 101) (.const (.int .i64 0)) 29), 4, some (100, false)⟩,
      ⟨some 103, (.pick (.tmp 100) (.const (.bool true)) (.tmp 102)), 4, none⟩,
      ⟨some 104, (.move (.tmp 103)), 4, none⟩,
      ⟨some 105, (.move (.tmp 15)), 29, some (104, false)⟩,
      ⟨some 106, (.binOp .neq 29 (.tmp 105) (.const (.int .i64 0)) 29), 4, some (104, false)⟩,
      ⟨some 107, (.pick (.tmp 104) (.const (.bool true)) (.tmp 106)), 4, none⟩,
      ⟨some 108, (.move (.tmp 107)), 4, none⟩,
      ⟨some 109, (.move (.tmp 8)), 4, some (108, false)⟩,
      ⟨some 110, (.move (.tmp 14)), 50, some (108, false)⟩,
      ⟨some 111, (.call ⟨(.builtin .len), #[(.tmp 110)], #[50]⟩), 3, some (108, false)⟩,
      ⟨some 112, (.binOp .eql 3 (.tmp 111) (.const (.int .i64 0)) 3), 4, some (108, false)⟩,
      ⟨some 113, (.binOp .neq 4 (.tmp 109) (.tmp 112) 4), 4, some (108, false)⟩,
      ⟨some 114, (.pick (.tmp 108) (.const (.bool true)) (.tmp 113)), 4, none⟩])
    (.cond (.tmp 114)
    (.seq (.reg [] [⟨some 4, (.assign (.const (.bool false))), 4, none⟩])
    .ret)
    .skip))
    (.seq (.reg [] [⟨some 16, (.assign (.const (.int .i64 0))), 3, none⟩])
    (.seq (.seq (.reg [] [⟨some 17, (.assign (.const (.int .i64 0))), 3, none⟩])
    (.block 0 (.loop (.seq (.seq (.reg [] [⟨some 115, (.move (.tmp 17)), 3, none⟩,
      ⟨some 116, (.move (.tmp 0)), 22, none⟩,
      ⟨some 117, (.indexAddr 22 (.tmp 116) (.const (.int .i64 0))), 0, none⟩,
      ⟨some 118, (.load 23 (.tmp 117)), 23, none⟩,
      ⟨some 119, (.call ⟨(.builtin .len), #[(.tmp 118)], #[23]⟩), 3, none⟩,
      ⟨some 120, (.binOp .lss 3 (.tmp 115) (.tmp 119) 3), 4, none⟩])
    (.cond (.tmp 120)
    .skip
    (.exit 0)))
    (.seq (.block 1 (.seq (.reg [] [⟨some 124, (.move (.tmp 0)), 22, none⟩,
      ⟨some 125, (.move (.tmp 17)), 3, none⟩,
      ⟨some 126, (.call ⟨(.value (.func 32)), #[(.tmp 124), (.tmp 125)], #[22, 3]⟩), 35, none⟩,
      ⟨some 123, (.move (.tmp 126)), 35, none⟩,
      ⟨some 127, (.extract (.tmp 123) 0), 23, none⟩,
      ⟨some 128, (.extract (.tmp 123) 1), 4, none⟩,
      ⟨some 129, (.extract (.tmp 123) 2), 29, none⟩,
      ⟨some 18, (.assign (.tmp 127)), 23, none⟩,
      ⟨some 19, (.assign (.tmp 128)), 4, none⟩,
      ⟨some 20, (.assign (.tmp 129)), 29, none⟩])
    (.seq (.seq (.reg [] [⟨some 130, (.move (.tmp 20)), 29, none⟩,
      ⟨some 131, (.binOp .neq 29 (.tmp 130) (.const (.int .i64 0)) 29), 4, none⟩])
    (.cond (.tmp 131)
    (.seq (.reg [] [⟨some 4, (.assign (.const (.bool false))), 4, none⟩])
    .ret)
    .skip))
    (.seq (.seq (.reg [] [⟨some 132, (.move (.tmp 19)), 4, none⟩])
    (.cond (.tmp 132)
    (.reg [] [⟨some 133, (.move (.tmp 16)), 3, none⟩,
      ⟨some 134, (.binOp .add 3 (.tmp 133) (.const (.int .i64 1)) 3), 3, none⟩,
      ⟨some 16, (.assign (.tmp 134)), 3, none⟩])
    .skip))
    (.seq (.seq (.reg [] [⟨some 135, (.move (.tmp 19)), 4, none⟩,
      ⟨some 136, (.unOp .not 4 (.tmp 135)), 4, none⟩,
      ⟨some 137, (.move (.tmp 136)), 4, none⟩,
      ⟨some 138, (.move (.tmp 10)), 4, some (137, false)⟩,
      ⟨some 139, (.unOp .not 4 (.tmp 138)), 4, some (137, false)⟩,
      ⟨some 140, (.pick (.tmp 137) (.const (.bool true)) (.tmp 139)), 4, none⟩])
    (.cond (.tmp 140)
    (.exit 1)
    .skip))
    (.seq (.reg [] [⟨some 142, (.move (.tmp 0)), 22, none⟩,
      ⟨some 143, (.load 25 (.tmp 9)), 25, none⟩,
      ⟨some 144, (.move (.tmp 17)), 3, none⟩,
      ⟨some 145, (.call ⟨(.value (.func 21)), #[(.tmp 142), (.tmp 143), (.tmp 144)], #[22, 25, 3]⟩), 30, none⟩,
      ⟨some 141, (.move (.tmp 145)), 30, none⟩,
      ⟨some 146, (.extract (.tmp 141) 0), 3, none⟩,
      ⟨some 147, (.extract (.tmp 141) 1), 4, none⟩,
      ⟨some 148, (.extract (.tmp 141) 2), 29, none⟩,
      ⟨some 21, (.assign (.tmp 146)), 3, none⟩,
      ⟨some 22, (.assign (.tmp 147)), 4, none⟩,
      ⟨some 23, (.assign (.tmp 148)), 29, none⟩])
    (.seq (.reg [] [⟨some 150, (.move (.tmp 0)), 22, none⟩,
      ⟨some 151, (.load 25 (.tmp 9)), 25, none⟩,
      ⟨some 152, (.move (.tmp 17)), 3, none⟩,
      ⟨some 153, (.call ⟨(.value (.func 24)), #[(.tmp 150), (.tmp 151), (.tmp 152)], #[22, 25, 3]⟩), 35, none⟩,
      ⟨some 149, (.move (.tmp 153)), 35, none⟩,
      ⟨some 154, (.extract (.tmp 149) 0), 23, none⟩,
      ⟨some 155, (.extract (.tmp 149) 1), 4, none⟩,
      ⟨some 156, (.extract (.tmp 149) 2), 29, none⟩,
      ⟨some 24, (.assign (.tmp 154)), 23, none⟩,
      ⟨some 25, (.assign (.tmp 155)), 4, none⟩,
      ⟨some 26, (.assign (.tmp 156)), 29, none⟩])
    (.seq (.reg [] [⟨some 158, (.move (.tmp 0)), 22, none⟩,
      ⟨some 159, (.load 25 (.tmp 9)), 25, none⟩,
      ⟨some 160, (.move (.tmp 17)), 3, none⟩,
      ⟨some 161, (.move (.tmp 24)), 23, none⟩,
      ⟨some 162, (.call ⟨(.value (.func 26)), #[(.tmp 158), (.tmp 159), (.tmp 160), (.tmp 161)], #[22, 25, 3, 23]⟩), 32, none⟩,
      ⟨some 157, (.move (.tmp 162)), 32, none⟩,
      ⟨some 163, (.extract (.tmp 157) 0), 3, none⟩,
      ⟨some 164, (.extract (.tmp 157) 1), 29, none⟩,
      ⟨some 27, (.assign (.tmp 163)), 3, none⟩,
      ⟨some 28, (.assign (.tmp 164)), 29, none⟩])
    (.seq (.reg [] [⟨some 165, (.move (.tmp 23)), 29, none⟩,
      ⟨some 166, (.binOp .neq 29 (.tmp 165) (.const (.int .i64 0)) 29), 4, none⟩,
      ⟨some 167, (.move (.tmp 166)), 4, none⟩,
      ⟨some 168, (.move (.tmp 22)), 4, some (167, false)⟩,
      ⟨some 169, (.unOp .not 4 (.tmp 168)), 4, some (167, false)⟩,
      ⟨some 170, (.pick (.tmp 167) (.const (.bool true)) (.tmp 169)), 4, none⟩,
      ⟨some 171, (.move (.tmp 170)), 4, none⟩,
      ⟨some 172, (.move (.tmp 21)), 3, some (171, false)⟩,
      ⟨some 173, (.binOp .neq 3 (.tmp 172) (.const (.int .i64 1)) 3), 4, some (171, false)⟩,
      ⟨some 174, (.pick (.tmp 171) (.const (.bool true)) (.tmp 173)), 4, none⟩,
      ⟨some 175, (.move (.tmp 174)), 4, none⟩,
      ⟨some 176, (.move (.tmp 26)), 29, some (175, false)⟩,
      ⟨some 177, (.binOp .neq 29 (.tmp 176) (.const (.int .i64 0)) 29), 4, some (175, false)⟩,
      ⟨some 178, (.pick (.tmp 175) (.const (.bool true)) (.tmp 177)), 4, none⟩,
      ⟨some 179, (.move (.tmp 178)), 4, none⟩,
      ⟨some 180, (.move (.tmp 25)), 4, some (179, false)⟩,
      ⟨some 181, (.unOp .not 4 (.tmp 180)), 4, some (179, false)⟩,
      ⟨some 182, (.pick (.tmp 179) (.const (.bool true)) (.tmp 181)), 4, none⟩,
      ⟨some 183, (.move (.tmp 182)), 4, none⟩,
      ⟨some 184, (.move (.tmp 28)), 29, some (183, false)⟩,
      ⟨some 185, (.binOp .neq 29 (.tmp 184) (.const (.int .i64 0)) 29), 4, some (183, false)⟩,
      ⟨some 186, (.pick (.tmp 183) (.const (.bool true)) (.tmp 185)), 4, none⟩,
      ⟨some 187, (.move (.tmp 186)), 4, none⟩,
      ⟨some 188, (.move (.tmp 27)), 3, some (187, false)⟩,
      ⟨some 189, (.binOp .neq 3 (.tmp 188) (.const (.int .i64 1)) 3), 4, some (187, false)⟩,
      ⟨some 190, (.pick (.tmp 187) (.const (.bool true)) (.tmp 189)), 4, none⟩])
    (.cond (.tmp 190)
    (.seq (.reg [] [⟨some 4, (.assign (.const (.bool false))), 4, none⟩])
    .ret)
    .skip))))))))))
    (.reg [] [⟨some 121, (.move (.tmp 17)), 3, none⟩,
      ⟨some 122, (.binOp .add 3 (.tmp 121) (.const (.int .i64 1)) 3), 3, none⟩,
      ⟨some 17, (.assign (.tmp 122)), 3, none⟩]))))))
    (.seq (.seq (.reg [] [⟨some 191, (.move (.tmp 8)), 4, none⟩,
      ⟨some 192, (.move (.tmp 12)), 23, none⟩,
      ⟨some 193, (.call ⟨(.builtin .len), #[(.tmp 192)], #[23]⟩), 3, none⟩,
      ⟨some 194, (.move (.tmp 16)), 3, none⟩,
      ⟨some 195, (.binOp .eql 3 (.tmp 193) (.tmp 194) 3), 4, none⟩,
      ⟨some 196, (.binOp .neq 4 (.tmp 191) (.tmp 195) 4), 4, none⟩])
    (.cond (.tmp 196)
    (.seq (.reg [] [⟨some 4, (.assign (.const (.bool false))), 4, none⟩])
    .ret)
    .skip))
    (.seq (.reg [] [⟨some 197, (.move (.tmp 0)), 22, none⟩,
      ⟨some 29, (.assign (.tmp 197)), 22, none⟩])
    (.seq (.seq (.reg [] [⟨some 198, (.move (.tmp 0)), 22, none⟩,
      ⟨some 199, (.indexAddr 22 (.tmp 198) (.const (.int .i64 0))), 0, none⟩,
      ⟨some 200, (.load 23 (.tmp 199)), 23, none⟩,
      ⟨some 201, (.call ⟨(.builtin .len), #[(.tmp 200)], #[23]⟩), 3, none⟩,
      ⟨some 202, (.binOp .sub 3 (.tmp 201) (.const (.int .i64 1)) 3), 3, none⟩,
      ⟨some 30, (.assign (.tmp 202)), 3, none⟩])
    (.block 2 (.loop (.seq (.seq (.reg [] [⟨some 203, (.move (.tmp 30)), 3, none⟩,
      ⟨some 204, (.binOp .geq 3 (.tmp 203) (.const (.int .i64 0)) 3), 4, none⟩])
    (.cond (.tmp 204)
    .skip
    (.exit 2)))
    (.seq (.block 3 (.seq (.reg [] [⟨some 31, (.assign (.const (.bool false))), 4, none⟩])
    (.seq (.seq (.reg [] [⟨some 32, (.assign (.const (.int .i64 0))), 3, none⟩])
    (.block 4 (.loop (.seq (.seq (.reg [] [⟨some 207, (.move (.tmp 32)), 3, none⟩,
      ⟨some 208, (.move (.tmp 12)), 23, none⟩,
      ⟨some 209, (.call ⟨(.builtin .len), #[(.tmp 208)], #[23]⟩), 3, none⟩,
      ⟨some 210, (.binOp .lss 3 (.tmp 207) (.tmp 209) 3), 4, none⟩])
    (.cond (.tmp 210)
    .skip
    (.exit 4)))
    (.seq (.block 5 (.reg [] [⟨some 213, (.move (.tmp 31)), 4, none⟩,
      ⟨some 214, (.move (.tmp 213)), 4, none⟩,
      ⟨some 215, (.move (.tmp 12)), 23, some (214, false)⟩,
      ⟨some 216, (.move (.tmp 32)), 3, some (214, false)⟩,
      ⟨some 217, (.indexAddr 23 (.tmp 215) (.tmp 216)), 0, some (214, false)⟩,
      ⟨some 218, (.load 3 (.tmp 217)), 3, some (214, false)⟩,
      ⟨some 219, (.move (.tmp 30)), 3, some (214, false)⟩,
      ⟨some 220, (.binOp .eql 3 (.tmp 218) (.tmp 219) 3), 4, some (214, false)⟩,
      ⟨some 221, (.pick (.tmp 214) (.const (.bool true)) (.tmp 220)), 4, none⟩,
      ⟨some 31, (.assign (.tmp 221)), 4, none⟩]))
    (.reg [] [⟨some 211, (.move (.tmp 32)), 3, none⟩,
      ⟨some 212, (.binOp .add 3 (.tmp 211) (.const (.int .i64 1)) 3), 3, none⟩,
      ⟨some 32, (.assign (.tmp 212)), 3, none⟩]))))))
    (.seq (.seq (.reg [] [⟨some 222, (.move (.tmp 31)), 4, none⟩,
      ⟨some 223, (.move (.tmp 222)), 4, none⟩,
      ⟨some 224, (.move (.tmp 29)), 22, some (223, false)⟩,
      ⟨some 225, (.indexAddr 22 (.tmp 224) (.const (.int .i64 0))), 0, some (223, false)⟩,
      ⟨some 226, (.load 23 (.tmp 225)), 23, some (223, false)⟩,
      ⟨some 227, (.call ⟨(.builtin .len), #[(.tmp 226)], #[23]⟩), 3, some (223, false)⟩,
      ⟨some 228, (.binOp .eql 3 (.tmp 227) (.const (.int .i64 1)) 3), 4, some (223, false)⟩,
      ⟨some 229, (.pick (.tmp 223) (.const (.bool true)) (.tmp 228)), 4, none⟩])
    (.cond (.tmp 229)
    (.exit 3)
    .skip))
    (.seq (.reg [] [⟨some 231, (.move (.tmp 29)), 22, none⟩,
      ⟨some 232, (.move (.tmp 30)), 3, none⟩,
      ⟨some 233, (.call ⟨(.value (.func 51)), #[(.tmp 231), (.tmp 232)], #[22, 3]⟩), 55, none⟩,
      ⟨some 230, (.move (.tmp 233)), 55, none⟩,
      ⟨some 234, (.extract (.tmp 230) 0), 22, none⟩,
      ⟨some 235, (.extract (.tmp 230) 1), 29, none⟩,
      ⟨some 29, (.assign (.tmp 234)), 22, none⟩,
      ⟨some 7, (.assign (.tmp 235)), 29, none⟩])
    (.seq (.reg [] [⟨some 236, (.move (.tmp 7)), 29, none⟩,
      ⟨some 237, (.binOp .neq 29 (.tmp 236) (.const (.int .i64 0)) 29), 4, none⟩,
      ⟨some 238, (.move (.tmp 237)), 4, none⟩,
      ⟨some 239, (.move (.tmp 29)), 22, some (238, false)⟩,
      ⟨some 240, (.call ⟨(.builtin .len), #[(.tmp 239)], #[22]⟩), 3, some (238, false)⟩,
      ⟨some 241, (.move (.tmp 0)), 22, some (238, false)⟩,
      ⟨some 242, (.call ⟨(.builtin .len), #[(.tmp 241)], #[22]⟩), 3, some (238, false)⟩,
      ⟨some 243, (.binOp .neq 3 (.tmp 240) (.tmp 242) 3), 4, some (238, false)⟩,
      ⟨some 244, (.pick (.tmp 238) (.const (.bool true)) (.tmp 243)), 4, none⟩])
    (.cond (.tmp 244)
    (.seq (.reg [] [⟨some 4, (.assign (.const (.bool false))), 4, none⟩])
    .ret)
    .skip)))))))
    (.reg [] [⟨some 205, (.move (.tmp 30)), 3, none⟩,
      ⟨some 206, (.binOp .sub 3 (.tmp 205) (.const (.int .i64 1)) 3), 3, none⟩,
      ⟨some 30, (.assign (.tmp 206)), 3, none⟩]))))))
    (.seq (.reg [] [⟨some 246, (.move (.tmp 29)), 22, none⟩,
      ⟨some 247, (.call ⟨(.value (.func 41)), #[(.tmp 246)], #[22]⟩), 48, none⟩,
      ⟨some 245, (.move (.tmp 247)), 48, none⟩,
      ⟨some 248, (.extract (.tmp 245) 0), 4, none⟩,
      ⟨some 249, (.extract (.tmp 245) 1), 29, none⟩,
      ⟨some 33, (.assign (.tmp 248)), 4, none⟩,
      ⟨some 7, (.assign (.tmp 249)), 29, none⟩])
    (.seq (.seq (.reg [] [⟨some 250, (.move (.tmp 7)), 29, none⟩,
      ⟨some 251, (.binOp .neq 29 (.tmp 250) (.const (.int .i64 0)) 29), 4, none⟩,
      ⟨some 252, (.move (.tmp 251)), 4, none⟩,
      ⟨some 253, (.move (.tmp 33)), 4, some (252, false)⟩,
      ⟨some 254, (.unOp .not 4 (.tmp 253)), 4, some (252, false)⟩,
      ⟨some 255, (.pick (.tmp 252) (.const (.bool true)) (.tmp 254)), 4, none⟩])
    (.cond (.tmp 255)
    (.seq (.reg [] [⟨some 4, (.assign (.const (.bool false))), 4, none⟩])
    .ret)
    .skip))
    (.seq (.reg [] [⟨some 257, (.move (.tmp 0)), 22, none⟩,
      ⟨some 258, (.load 25 (.tmp 3)), 25, none⟩,
      ⟨some 259, (.call ⟨(.value (.func 47)), #[(.tmp 257), (.tmp 258)], #[22, 25]⟩), 30, none⟩,
      ⟨some 256, (.move (.tmp 259)), 30, none⟩,
      ⟨some 260, (.extract (.tmp 256) 0), 3, none⟩,
      ⟨some 261, (.extract (.tmp 256) 1), 4, none⟩,
      ⟨some 262, (.extract (.tmp 256) 2), 29, none⟩,
      ⟨some 34, (.assign (.tmp 260)), 3, none⟩,
      ⟨some 6, (.assign (.tmp 261)), 4, none⟩,
      ⟨some 7, (.assign (.tmp 262)), 29, none⟩])
    (.seq (.seq (.reg [] [⟨some 263, (.move (.tmp 7)), 29, none⟩,
      ⟨some 264, (.binOp .neq 29 (.tmp 263) (.const (.int .i64 0)) 29), 4, none⟩,
      ⟨some 265, (.move (.tmp 264)), 4, none⟩,
      ⟨some 266, (.move (.tmp 6)), 4, some (265, false)⟩,
      ⟨some 267, (.unOp .not 4 (.tmp 266)), 4, some (265, false)⟩,
      ⟨some 268, (.pick (.tmp 265) (.const (.bool true)) (.tmp 267)), 4, none⟩])
    (.cond (.tmp 268)
    (.seq (.reg [] [⟨some 269, (.move (.tmp 34)), 3, none⟩,
      ⟨some 270, (.binOp .eql 3 (.tmp 269) (.const (.int .i64 0)) 3), 4, none⟩,
      ⟨some 4, (.assign (.tmp 270)), 4, none⟩])
    .ret)
    .skip))
    (.seq (.reg [] [⟨some 35, (.assign (.const (.int .i64 0))), 3, none⟩])
    (.seq (.seq (.reg [] [⟨some 36, (.assign (.const (.int .i64 0))), 3, none⟩])
    (.block 6 (.loop (.seq (.seq (.reg [] [⟨some 271, (.move (.tmp 36)), 3, none⟩,
      ⟨some 272, (.move (.tmp 0)), 22, none⟩,
      ⟨some 273, (.indexAddr 22 (.tmp 272) (.const (.int .i64 0))), 0, none⟩,
      ⟨some 274, (.load 23 (.tmp 273)), 23, none⟩,
      ⟨some 275, (.call ⟨(.builtin .len), #[(.tmp 274)], #[23]⟩), 3, none⟩,
      ⟨some 276, (.binOp .lss 3 (.tmp 271) (.tmp 275) 3), 4, none⟩])
    (.cond (.tmp 276)
    .skip
    (.exit 6)))
    (.seq (.block 7 (.seq (.reg [] [⟨some 280, (.move (.tmp 0)), 22, none⟩,
      ⟨some 281, (.move (.tmp 36)), 3, none⟩,
      ⟨some 282, (.call ⟨(.value (.func 23)), #[(.tmp 280), (.tmp 281)], #[22, 3]⟩), 32, none⟩,
      ⟨some 279, (.move (.tmp 282)), 32, none⟩,
      ⟨some 283, (.extract (.tmp 279) 0), 3, none⟩,
      ⟨some 284, (.extract (.tmp 279) 1), 29, none⟩,
      ⟨some 37, (.assign (.tmp 283)), 3, none⟩,
      ⟨some 38, (.assign (.tmp 284)), 29, none⟩])
    (.seq (.seq (.reg [] [⟨some 285, (.move (.tmp 38)), 29, none⟩,
      ⟨some 286, (.binOp .neq 29 (.tmp 285) (.const (.int .i64 0)) 29), 4, none⟩])
    (.cond (.tmp 286)
    (.seq (.reg [] [⟨some 4, (.assign (.const (.bool false))), 4, none⟩])
    .ret)
    .skip))
    (.reg [] [⟨some 287, (.move (.tmp 35)), 3, none⟩,
      ⟨some 288, (.move (.tmp 37)), 3, none⟩,
      ⟨some 289, (.binOp .sub 3 (.tmp 288) (.const (.int .i64 1)) 3), 3, none⟩,
      ⟨some 290, (.binOp .add 3 (.tmp 287) (.tmp 289) 3), 3, none⟩,
      ⟨some 35, (.assign (.tmp 290)), 3, none⟩]))))
    (.reg [] [⟨some 277, (.move (.tmp 36)), 3, none⟩,
      ⟨some 278, (.binOp .add 3 (.tmp 277) (.const (.int .i64 1)) 3), 3, none⟩,
      ⟨some 36, (.assign (.tmp 278)), 3, none⟩]))))))
    (.seq (.reg [] [⟨some 291, (.move (.tmp 34)), 3, none⟩,
      ⟨some 292, (.move (.tmp 35)), 3, none⟩,
      ⟨some 293, (.binOp .geq 3 (.tmp 291) (.tmp 292) 3), 4, none⟩,
      ⟨some 4, (.assign (.tmp 293)), 4, none⟩])
    .ret))))))))))))))))))))))
theorem C17 {args : List AV} {r : AV} (hn : args.length ≤ 294) (h : vc Try.prog T [] A17 (Fin T [(.tmp 4)] r) ⟨envOf 0 args, []⟩) : CallP Try.prog 17 args r :=
  callP_of tok mixed Try.func17 (by kernel_rfl) (by kernel_rfl) (by kernel_rfl : Try.f17.ntmps = 294) (by kernel_rfl : Try.f17.body.bind (strip 294 (fun _ => [])) = some A17) hn h
def A18 : ACode :=
  (.seq (.reg [] [⟨some 2, (.assign (.const (.bool false))), 4, none⟩])
    (.seq (.seq (.reg [] [⟨some 3, (.assign (.const (.int .i64 0))), 3, none⟩])
    (.block 0 (.loop (.seq (.seq (.reg [] [⟨some 4, (.move (.tmp 3)), 3, none⟩,
      ⟨some 5, (.move (.tmp 0)), 22, none⟩,
      ⟨some 6, (.call ⟨(.builtin .len), #[(.tmp 5)], #[22]⟩), 3, none⟩,
      ⟨some 7, (.binOp .lss 3 (.tmp 4) (.tmp 6) 3), 4, none⟩])
    (.cond (.tmp 7)
    .skip
    (.exit 0)))
    (.seq (.block 1 (.seq (.reg [] [⟨some 10, (.move (.tmp 0)), 22, none⟩,
      ⟨some 11, (.move (.tmp 3)), 3, none⟩,
      ⟨some 12, (.indexAddr 22 (.tmp 10) (.tmp 11)), 0, none⟩,
      ⟨some 13, (.load 23 (.tmp 12)), 23, none⟩,
      ⟨some 14, (.call ⟨(.builtin .len), #[(.tmp 13)], #[23]⟩), 3, none⟩,
      ⟨some 15, (.binOp .gtr 3 (.tmp 14) (.const (.int .i64 50)) 3), 4, none⟩])
    (.cond (.tmp 15)
    (.seq (.reg [] [⟨some 2, (.assign (.const (.bool true))), 4, none⟩])
    .ret)
    .skip)))
    (.reg [] [⟨some 8, (.move (.tmp 3)), 3, none⟩,
      ⟨some 9, (.binOp .add 3 (.tmp 8) (.const (.int .i64 1)) 3), 3, none⟩,
      ⟨some 3, (.assign (.tmp 9)), 3, none⟩]))))))
    (.seq (.reg [] [⟨some 16, (.move (.tmp 0)), 22, none⟩,
      ⟨some 17, (.call ⟨(.builtin .len), #[(.tmp 16)], #[22]⟩), 3, none⟩,
      ⟨some 18, (.binOp .gtr 3 (.tmp 17) (.const (.int .i64 50)) 3), 4, none⟩,
      ⟨some 2, (.assign (.tmp 18)), 4, none⟩])
    .ret)))
theorem C18 {args : List AV} {r : AV} (hn : args.length ≤ 19) (h : vc Try.prog T [] A18 (Fin T [(.tmp 2)] r) ⟨envOf 0 args, []⟩) : CallP Try.prog 18 args r :=
  callP_of tok mixed Try.func18 (by kernel_rfl) (by kernel_rfl) (by kernel_rfl : Try.f18.ntmps = 19) (by kernel_rfl : Try.f18.body.bind (strip 19 (fun _ => [])) = some A18) hn h
def A19 : ACode :=
  (.seq (.reg [] [⟨some 1, (.box 25 (.tmp 0)), 0, none⟩,
      ⟨some 2, (.assign (.const (.bool false))), 4, none⟩])
    (.seq (.reg [] [⟨some 3, (.fieldAddr 25 (.tmp 1) 0), 0, none⟩,
      ⟨some 4, (.load 23 (.tmp 3)), 23, none⟩,
      ⟨some 5, (.call ⟨(.builtin .len), #[(.tmp 4)], #[23]⟩), 3, none⟩,
      ⟨some 6, (.binOp .gtr 3 (.tmp 5) (.const (.int .i64 100)) 3), 4, none⟩,
      ⟨some 7, (.move (.tmp 6)), 4, none⟩,
      ⟨some 8, (.fieldAddr 25 (.tmp 1) 1), 0, some (7, false)⟩,
      ⟨some 9, (.load 23 (.tmp 8)), 23, some (7, false)⟩,
      ⟨some 10, (.call ⟨(.builtin .len), #[(.tmp 9)], #[23]⟩), 3, some (7, false)⟩,
      ⟨some 11, (.binOp .gtr 3 (.tmp 10) (.const (.int .i64 100)) 3), 4, some (7, false)⟩,
      ⟨some 12, (.pick (.tmp 7) (.const (.bool true)) (.tmp 11)), 4, none⟩,
      ⟨some 2, (.assign (.tmp 12)), 4, none⟩])
    .ret))
theorem C19 {args : List AV} {r : AV} (hn : args.length ≤ 13) (h : vc Try.prog T [] A19 (Fin T [(.tmp 2)] r) ⟨envOf 0 args, []⟩) : CallP Try.prog 19 args r :=
  callP_of tok mixed Try.func19 (by kernel_rfl) (by kernel_rfl) (by kernel_rfl : Try.f19.ntmps = 13) (by kernel_rfl : Try.f19.body.bind (strip 13 (fun _ => [])) = some A19) hn h
end Go.Proofs.Ytnpkaemlidifgaa
end

section
/- Contracts: claimed readings; the sanity check; what is too long; equal lists. -/
namespace Go.Proofs.Ytnpkaemlidifgaa
open Go.Abs Go
set_option maxRecDepth 20000
set_option maxHeartbeats 2000000
attribute [local irreducible] PreK CondK CallK CallG CallX LoopK
attribute [local simp] avsEq avEq akind teq vkind vEq

def misfit (t : List (List Int)) (ats : List Int) (p : Nat) (rd : List Int) : Bool := (prs t ats p).any fun x => decide (el rd x.1.toNat ≠ x.2)
def CheckR (t : List (List Int)) (par ats : List Int) (p : Int) (rd : List Int) : Int × Int :=
  if fitsErr t par ats [p] ≠ 0 then (0, fitsErr t par ats [p]) else if rd.length ≠ par.length then (0, 1) else if (rd.any fun n => !okR n) = true then (0, 1) else if misfit t ats p.toNat rd = true then (0, 7) else (chgM par rd, 0)
theorem prs_drop {t : List (List Int)} {ats : List Int} {p i : Nat} (ha : i < ats.length) (ht : i < t.length) : (prs t ats p).drop i = (el ats i, el (el t i) p) :: (prs t ats p).drop (i + 1) := by
  unfold prs
  rw [zip_drop ha (by rw [colM_len]; exact ht), el_col ht]
theorem CheckReadings_c (t : List (List Int)) (par ats : List Int) (p : Int) (rd : List Int) (h : Sm t) (hp : par.length ≤ 1000) (ha : ats.length ≤ 1000) (hrd : rd.length ≤ 1000) :
    CallP Try.prog 26 [rdsV t, treeV par ats, iv p, ints rd] (.tup [iv (CheckR t par ats p rd).1, iv (CheckR t par ats p rd).2]) := by
  refine C26 (by simp) ?_
  have hf := fits_c t par ats [p] h hp ha (by simp)
  have hcf := containsFunc_c rd (sbig hrd) 70 [] (fun n => !okR n) notReading2_c (by simp [snapL]) (by simp [AV.refsL]) (by simp [snapOKL])
  generalize hR : CheckR t par ats p rd = R
  unfold CheckR at hR
  simp [A26]
  refine CallX.pure (CallP.weak (by simpa [weakL, weak] using hf)) (by simp) (by simp) ?_
  try simp 
  refine CondK.intro (fun h1 => ?_) (fun h1 => ?_)
  · simp at h1
    rw [if_pos h1] at hR
    subst hR
    try simp 
  · simp at h1
    rw [if_neg (by simpa using h1)] at hR
    obtain ⟨hr, hx, hl, hpl, _⟩ := fits_zero h1
    obtain ⟨n, rfl, hn⟩ := placed_nat hpl (List.mem_singleton.2 rfl)
    by_cases h2 : rd.length = par.length
    · rw [if_neg (by simpa using h2)] at hR
      have h2' : (rd.length : Int) = par.length := by omega
      try simp [h2, h2']
      repeat' (first
        | (refine CallX.pure (hcf) (by simp) (by simp) ?_; try simp [h2, h2'])
        | (refine CallK.intro (hcf) (by simp) (by simp) ?_; try simp [h2, h2'])
        | (refine CallG.intro (fun _ => hcf) (by simp) (by simp) ?_; try simp [h2, h2'])
        | ((with_reducible refine PreK.intro ?_ ?_); (next => (first | omega | (intros; first | omega | (refine ⟨by omega, ?_⟩; repeat (first | assumption | constructor)) | assumption))); intro _; try simp [h2, h2'])
        | fail)
      refine CondK.intro (fun h3 => ?_) (fun h3 => ?_)
      · rw [if_pos h3] at hR
        subst hR
        try simp 
      · rw [if_neg (by simp [h3])] at hR
        rw [Int.toNat_natCast] at hR
        try simp 
        repeat (refine PreK.intro (by first | omega | (intros; first | omega | (refine ⟨by omega, ?_⟩; simp_all; done) | (simp_all; done) | (simp_all; omega))) fun _ => ?_; (try simp ))
        refine LoopK.by (ι := Nat) (fun i => ⟨[(34, iv i), (33, iv ats.length), (32, ints ats), (0, rdsV t), (2, iv n), (3, ints rd), (5, .pt 5 1 0 0)], [(5, some ⟨2, [treeV par ats], 1, true⟩)]⟩) (fun i => ats.length - i)
          (fun i => i ≤ ats.length ∧ (if (((prs t ats n).drop i).any fun x => decide (el rd x.1.toNat ≠ x.2)) = true then (0, 7) else (chgM par rd, 0)) = R) 0 ⟨Nat.zero_le _, hR⟩ (by simp) ?_
        intro i Q' ⟨hi, hc⟩ hq he hr'
        try simp 
        refine CondK.intro (fun h4 => ?_) (fun h4 => ?_)
        · simp at h4
          have hit : i < t.length := by omega
          have hrow := hr.row hit
          have hpl' : n < (el t i).length := by omega
          have hat := hx.atsR _ (el_mem_of ats i h4)
          obtain ⟨m, hm⟩ : ∃ m : Nat, el ats i = (m : Int) := ⟨(el ats i).toNat, by omega⟩
          have hml : m < rd.length := by omega
          rw [prs_drop h4 hit, List.any_cons, hm, Int.toNat_natCast] at hc
          try simp [h4, hit, hpl', hm, hml]
          repeat (refine PreK.intro (by first | omega | (intros; first | omega | (refine ⟨by omega, ?_⟩; simp_all; done) | (simp_all; done) | (simp_all; omega))) fun _ => ?_; (try simp [h4, hit, hpl', hm, hml]))
          refine CondK.intro (fun h5 => ?_) (fun h5 => ?_)
          · simp at h5
            rw [decide_eq_true h5, Bool.true_or, if_pos rfl] at hc
            subst hc
            try simp 
            apply hr'
            try simp 
          · simp at h5
            rw [decide_eq_false (by simpa using h5), Bool.false_or] at hc
            repeat (refine PreK.intro (by first | omega | (intros; first | omega | (refine ⟨by omega, ?_⟩; simp_all; done) | (simp_all; done) | (simp_all; omega))) fun _ => ?_; (try simp ))
            exact hq (i + 1) _ ⟨by omega, hc⟩ (by omega) (by simp)
        · simp at h4
          rw [List.drop_eq_nil_of_le (by simp [prs]; omega)] at hc
          simp only [List.any_nil, Bool.false_eq_true, if_false] at hc
          subst hc
          try simp 
          apply he
          try simp 
          repeat' (first
            | (refine CallX.pure (changes_c par ats rd hx h2) (by simp) (by simp) ?_; try simp )
            | (refine CallK.intro (changes_c par ats rd hx h2) (by simp) (by simp) ?_; try simp )
            | (refine CallG.intro (fun _ => changes_c par ats rd hx h2) (by simp) (by simp) ?_; try simp )
            | ((with_reducible refine PreK.intro ?_ ?_); (next => (first | omega | (intros; first | omega | (refine ⟨by omega, ?_⟩; repeat (first | assumption | constructor)) | assumption))); intro _; try simp )
            | fail)
    · rw [if_pos h2] at hR
      have h2' : ¬ (rd.length : Int) = par.length := by omega
      subst hR
      try simp [h2, h2']
      repeat' (first
        | ((with_reducible refine PreK.intro ?_ ?_); (next => (first | omega | (intros; first | omega | (refine ⟨by omega, ?_⟩; repeat (first | assumption | constructor)) | assumption))); intro _; try simp [h2, h2'])
        | fail)
      refine CallG.intro (r := bv true) (fun hh => by cases hh) (by simp) (by simp) ?_
      try simp 
      refine CondK.tt ?_
      try simp 
def longT (t : List (List Int)) : Bool := (t.any fun r => decide (50 < r.length)) || decide (50 < t.length)
theorem Long7_c (t : List (List Int)) (h : t.length ≤ big) : CallP Try.prog 18 [rdsV t] (bv (longT t)) := by
  refine C18 (by simp) ?_
  generalize hR : longT t = R
  unfold longT at hR
  simp only [big] at h
  simp [A18]
  refine LoopK.by (ι := Nat) (fun i => ⟨[(3, iv i), (0, rdsV t)], []⟩) (fun i => t.length - i) (fun i => i ≤ t.length ∧ (((t.drop i).any fun r => decide (50 < r.length)) || decide (50 < t.length)) = R) 0 ⟨Nat.zero_le _, hR⟩ (by simp) ?_
  intro i Q' ⟨hi, hc⟩ hq he hr
  try simp 
  refine CondK.intro (fun h1 => ?_) (fun h1 => ?_)
  · simp at h1
    rw [drop_cons t i h1, List.any_cons] at hc
    try simp [h1]
    repeat (refine PreK.intro (by first | omega | (intros; first | omega | (refine ⟨by omega, ?_⟩; simp_all; done) | (simp_all; done) | (simp_all; omega))) fun _ => ?_; (try simp [h1]))
    refine CondK.intro (fun h2 => ?_) (fun h2 => ?_)
    · have e : decide (50 < (el t i).length) = true := by simp at h2; simp; omega
      rw [e] at hc
      simp only [Bool.true_or] at hc
      subst hc
      try simp 
      apply hr
      try simp 
    · have e : decide (50 < (el t i).length) = false := by simp at h2; simp; omega
      rw [e] at hc
      simp only [Bool.false_or] at hc
      repeat (refine PreK.intro (by first | omega | (intros; first | omega | (refine ⟨by omega, ?_⟩; simp_all; done) | (simp_all; done) | (simp_all; omega))) fun _ => ?_; (try simp ))
      exact hq (i + 1) _ ⟨by omega, hc⟩ (by omega) (by simp)
  · simp at h1
    rw [List.drop_eq_nil_of_le (by omega)] at hc
    simp only [List.any_nil, Bool.false_or] at hc
    subst hc
    try simp 
    apply he
    try simp 
    try omega
theorem longT_small {t : List (List Int)} (h : longT t = false) : Sm t ∧ t.length ≤ 50 ∧ ∀ r ∈ t, r.length ≤ 50 := by
  unfold longT at h
  simp only [Bool.or_eq_false_iff, List.any_eq_false, decide_eq_true_eq, decide_eq_false_iff_not] at h
  exact ⟨⟨by omega, fun r hr => by have := h.1 r hr; omega⟩, by omega, fun r hr => by have := h.1 r hr; omega⟩
def largeT (par ats : List Int) : Bool := decide (100 < par.length) || decide (100 < ats.length)
theorem Large7_c (par ats : List Int) : CallP Try.prog 19 [treeV par ats] (bv (largeT par ats)) := by
  refine C19 (by simp) ?_
  unfold largeT
  simp [A19]
  repeat (refine PreK.intro (by first | omega | (intros; first | omega | (refine ⟨by omega, ?_⟩; simp_all; done) | (simp_all; done) | (simp_all; omega))) fun _ => ?_; (try simp ))
  congr 1 <;> (rw [Bool.eq_iff_iff]; simp; omega)
theorem largeT_small {par ats : List Int} (h : largeT par ats = false) : par.length ≤ 1000 ∧ ats.length ≤ 1000 := by
  unfold largeT at h
  simp only [Bool.or_eq_false_iff, decide_eq_false_iff_not] at h
  omega
end Go.Proofs.Ytnpkaemlidifgaa
end

section
/- Contracts: the statements StemmaFewest, StemmaReadings, StemmaChecks, StemmaAparts, StemmaPlaces, StemmaSides, StemmaConflicts, StemmaTotals. -/
namespace Go.Proofs.Ytnpkaemlidifgaa
open Go.Abs Go
set_option maxRecDepth 20000
set_option maxHeartbeats 2000000
attribute [local irreducible] PreK CondK CallK CallG CallX LoopK
attribute [local simp] avsEq avEq akind teq vkind vEq

@[simp] def claimV (c : (List Int × List Int) × Int × List Int) : AV := .agg [ints c.1.1, ints c.1.2, iv c.2.1, ints c.2.2]
end Go.Proofs.Ytnpkaemlidifgaa
end

section
/- Contracts: the statements StemmaSides and StemmaTotals. -/
namespace Go.Proofs.Ytnpkaemlidifgaa
open Go.Abs Go
set_option maxRecDepth 20000
set_option maxHeartbeats 2000000
attribute [local irreducible] PreK CondK CallK CallG CallX LoopK
attribute [local simp] avsEq avEq akind teq vkind vEq

end Go.Proofs.Ytnpkaemlidifgaa
end

section
/- The library's sort of words at this program: where its functions and types stand (written by the kit's tool lay-plain), and its contract. -/
namespace Go.Proofs.Ytnpkaemlidifgaa
open Go.Abs Go Go.Shelf
def lsort_ren : Go.Shelf.Ren := ⟨fun | 6 => 90 | 15 => 101 | 14 => 100 | 28 => 114 | 29 => 115 | 20 => 106 | 21 => 107 | 22 => 108 | 23 => 109 | 24 => 110 | 25 => 111 | 26 => 112 | 27 => 113 | 46 => 126 | 47 => 127 | 48 => 128 | 49 => 129 | 50 => 130 | 57 => 136 | n => n, fun | 22 => 22 | 24 => 23 | 25 => 89 | 3 => 3 | 39 => 106 | 0 => 0 | 53 => 119 | 55 => 121 | 4 => 4 | 46 => 112 | 45 => 111 | 50 => 116 | 5 => 5 | 9 => 9 | 66 => 129 | 70 => 133 | 76 => 141 | 77 => 142 | n => n, fun | n => n⟩
theorem lsort : Go.Proofs.SlLaysF.n6 Try.prog lsort_ren := {
  mixed := by kernel_rfl
  f6 := ⟨Try.f90.name, by decide, Try.func90.trans (congrArg some (by kernel_rfl))⟩
  f14 := ⟨Try.f100.name, by decide, Try.func100.trans (congrArg some (by kernel_rfl))⟩
  f15 := Try.func101.trans (congrArg some (by kernel_rfl))
  f20 := ⟨Try.f106.name, by decide, Try.func106.trans (congrArg some (by kernel_rfl))⟩
  f21 := ⟨Try.f107.name, by decide, Try.func107.trans (congrArg some (by kernel_rfl))⟩
  f22 := ⟨Try.f108.name, by decide, Try.func108.trans (congrArg some (by kernel_rfl))⟩
  f23 := ⟨Try.f109.name, by decide, Try.func109.trans (congrArg some (by kernel_rfl))⟩
  f24 := ⟨Try.f110.name, by decide, Try.func110.trans (congrArg some (by kernel_rfl))⟩
  f25 := ⟨Try.f111.name, by decide, Try.func111.trans (congrArg some (by kernel_rfl))⟩
  f26 := ⟨Try.f112.name, by decide, Try.func112.trans (congrArg some (by kernel_rfl))⟩
  f27 := ⟨Try.f113.name, by decide, Try.func113.trans (congrArg some (by kernel_rfl))⟩
  f28 := Try.func114.trans (congrArg some (by kernel_rfl))
  f29 := Try.func115.trans (congrArg some (by kernel_rfl))
  f46 := ⟨Try.f126.name, by decide, Try.func126.trans (congrArg some (by kernel_rfl))⟩
  f47 := Try.func127.trans (congrArg some (by kernel_rfl))
  f48 := Try.func128.trans (congrArg some (by kernel_rfl))
  f49 := ⟨Try.f129.name, by decide, Try.func129.trans (congrArg some (by kernel_rfl))⟩
  f50 := ⟨Try.f130.name, by decide, Try.func130.trans (congrArg some (by kernel_rfl))⟩
  f57 := ⟨Try.f136.name, by decide, Try.func136.trans (congrArg some (by kernel_rfl))⟩
  t0 := Try.underlying0
  a0 := Try.isAgg0
  z0 := Try.sizeOf0
  v0 := Try.zeroValue0
  t3 := Try.underlying3
  a3 := Try.isAgg3
  z3 := Try.sizeOf3
  v3 := Try.zeroValue3
  t4 := Try.underlying4
  a4 := Try.isAgg4
  z4 := Try.sizeOf4
  v4 := Try.zeroValue4
  t5 := Try.underlying5
  a5 := Try.isAgg5
  z5 := Try.sizeOf5
  v5 := Try.zeroValue5
  t9 := Try.underlying9
  a9 := Try.isAgg9
  z9 := Try.sizeOf9
  v9 := Try.zeroValue9
  t22 := Try.underlying22
  a22 := Try.isAgg22
  z22 := Try.sizeOf22
  v22 := Try.zeroValue22
  a24 := Try.isAgg23
  z24 := Try.sizeOf23
  t25 := Try.underlying89
  a25 := Try.isAgg89
  z25 := Try.sizeOf89
  v25 := Try.zeroValue89
  t39 := Try.underlying106
  a39 := Try.isAgg106
  z39 := Try.sizeOf106
  v39 := Try.zeroValue106
  t45 := Try.underlying111
  a45 := Try.isAgg111
  z45 := Try.sizeOf111
  v45 := Try.zeroValue111
  t46 := Try.underlying112
  a46 := Try.isAgg112
  z46 := Try.sizeOf112
  v46 := Try.zeroValue112
  t50 := Try.underlying116
  a50 := Try.isAgg116
  z50 := Try.sizeOf116
  v50 := Try.zeroValue116
  t53 := Try.underlying119
  a53 := Try.isAgg119
  z53 := Try.sizeOf119
  v53 := Try.zeroValue119
  t55 := Try.underlying121
  a55 := Try.isAgg121
  z55 := Try.sizeOf121
  v55 := Try.zeroValue121
  t66 := Try.underlying129
  a66 := Try.isAgg129
  z66 := Try.sizeOf129
  v66 := Try.zeroValue129
  t70 := Try.underlying133
  a70 := Try.isAgg133
  z70 := Try.sizeOf133
  v70 := Try.zeroValue133
  t76 := Try.underlying141
  a76 := Try.isAgg141
  z76 := Try.sizeOf141
  v76 := Try.zeroValue141
  t77 := Try.underlying142
  a77 := Try.isAgg142
  z77 := Try.sizeOf142
  v77 := Try.zeroValue142 }
end Go.Proofs.Ytnpkaemlidifgaa
end

section
/- Functions of the cut as the value layer reads them. (written by gen.py) -/
set_option maxRecDepth 20000
namespace Go.Proofs.Ytnpkaemlidifgaa
open Go.Abs Go

def A88 : ACode :=
  (.seq (.reg [] [⟨some 4, (.assign (.const (.int .i64 0))), 3, none⟩])
    (.seq (.seq (.reg [] [⟨some 9, (.move (.tmp 0)), 23, none⟩,
      ⟨some 10, (.call ⟨(.builtin .len), #[(.tmp 9)], #[23]⟩), 3, none⟩,
      ⟨some 11, (.move (.const (.int .i64 0))), 3, none⟩])
    (.block 0 (.loop (.seq (.reg [] [⟨some 12, (.binOp .lss 3 (.tmp 11) (.tmp 10) 3), 0, none⟩])
    (.seq (.cond (.tmp 12)
    .skip
    (.exit 0))
    (.seq (.block 1 (.seq (.reg [] [⟨some 13, (.move (.tmp 11)), 3, none⟩,
      ⟨some 14, (.indexAddr 23 (.tmp 9) (.tmp 11)), 0, none⟩,
      ⟨some 15, (.load 3 (.tmp 14)), 3, none⟩,
      ⟨some 5, (.assign (.tmp 13)), 3, none⟩,
      ⟨some 6, (.assign (.tmp 15)), 3, none⟩])
    (.seq (.seq (.reg [] [⟨some 16, (.move (.tmp 5)), 3, none⟩,
      ⟨some 17, (.move (.tmp 1)), 23, none⟩,
      ⟨some 18, (.call ⟨(.builtin .len), #[(.tmp 17)], #[23]⟩), 3, none⟩,
      ⟨some 19, (.binOp .geq 3 (.tmp 16) (.tmp 18) 3), 4, none⟩])
    (.cond (.tmp 19)
    (.seq (.reg [] [⟨some 4, (.assign (.const (.int .i64 1))), 3, none⟩])
    .ret)
    .skip))
    (.seq (.reg [] [⟨some 20, (.move (.tmp 1)), 23, none⟩,
      ⟨some 21, (.move (.tmp 5)), 3, none⟩,
      ⟨some 22, (.indexAddr 23 (.tmp 20) (.tmp 21)), 0, none⟩,
      ⟨some 23, (.load 3 (.tmp 22)), 3, none⟩,
      ⟨some 7, (.assign (.tmp 23)), 3, none⟩])
    (.seq (.reg [] [⟨some 24, (.move (.tmp 6)), 3, none⟩,
      ⟨some 25, (.move (.tmp 7)), 3, none⟩,
      ⟨some 26, (.call ⟨(.value (.func 99)), #[(.tmp 24), (.tmp 25)], #[3, 3]⟩), 3, none⟩,
      ⟨some 8, (.assign (.tmp 26)), 3, none⟩])
    (.seq (.reg [] [⟨some 27, (.move (.tmp 8)), 3, none⟩,
      ⟨some 28, (.binOp .neq 3 (.tmp 27) (.const (.int .i64 0)) 3), 4, none⟩])
    (.cond (.tmp 28)
    (.seq (.reg [] [⟨some 29, (.move (.tmp 8)), 3, none⟩,
      ⟨some 4, (.assign (.tmp 29)), 3, none⟩])
    .ret)
    .skip)))))))
    (.reg [] [⟨some 30, (.binOp .add 3 (.tmp 11) (.const (.int .i64 1)) 3), 3, none⟩,
      ⟨some 11, (.move (.tmp 30)), 3, none⟩])))))))
    (.seq (.seq (.reg [] [⟨some 31, (.move (.tmp 0)), 23, none⟩,
      ⟨some 32, (.call ⟨(.builtin .len), #[(.tmp 31)], #[23]⟩), 3, none⟩,
      ⟨some 33, (.move (.tmp 1)), 23, none⟩,
      ⟨some 34, (.call ⟨(.builtin .len), #[(.tmp 33)], #[23]⟩), 3, none⟩,
      ⟨some 35, (.binOp .lss 3 (.tmp 32) (.tmp 34) 3), 4, none⟩])
    (.cond (.tmp 35)
    (.seq (.reg [] [⟨some 4, (.assign (.const (.int .i64 (-1)))), 3, none⟩])
    .ret)
    .skip))
    (.seq (.reg [] [⟨some 4, (.assign (.const (.int .i64 0))), 3, none⟩])
    .ret))))
theorem C88 {args : List AV} {r : AV} (hn : args.length ≤ 36) (h : vc Try.prog T [] A88 (Fin T [(.tmp 4)] r) ⟨envOf 0 args, []⟩) : CallP Try.prog 88 args r :=
  callP_of tok mixed Try.func88 (by kernel_rfl) (by kernel_rfl) (by kernel_rfl : Try.f88.ntmps = 36) (by kernel_rfl : Try.f88.body.bind (strip 36 (fun _ => [])) = some A88) hn h
def A92 : ACode :=
  (.seq (.reg [] [⟨some 4, (.assign (.const (.slice none 0 0))), 22, none⟩])
    (.seq (.seq (.reg [] [⟨some 8, (.move (.tmp 0)), 22, none⟩,
      ⟨some 9, (.call ⟨(.builtin .len), #[(.tmp 8)], #[22]⟩), 3, none⟩,
      ⟨some 10, (.binOp .lss 3 (.tmp 9) (.const (.int .i64 2)) 3), 4, none⟩])
    (.cond (.tmp 10)
    (.seq (.reg [] [⟨some 11, (.move (.tmp 0)), 22, none⟩,
      ⟨some 4, (.assign (.tmp 11)), 22, none⟩])
    .ret)
    .skip))
    (.seq (.seq (.reg [] [⟨some 5, (.assign (.const (.int .i64 1))), 3, none⟩])
    (.block 0 (.loop (.seq (.seq (.reg [] [⟨some 12, (.move (.tmp 5)), 3, none⟩,
      ⟨some 13, (.move (.tmp 0)), 22, none⟩,
      ⟨some 14, (.call ⟨(.builtin .len), #[(.tmp 13)], #[22]⟩), 3, none⟩,
      ⟨some 15, (.binOp .lss 3 (.tmp 12) (.tmp 14) 3), 4, none⟩])
    (.cond (.tmp 15)
    .skip
    (.exit 0)))
    (.seq (.block 1 (.seq (.draw [] [⟨some 18, (.move (.tmp 1)), 46, none⟩,
      ⟨some 19, (.move (.tmp 0)), 22, none⟩,
      ⟨some 20, (.move (.tmp 5)), 3, none⟩,
      ⟨some 21, (.indexAddr 22 (.tmp 19) (.tmp 20)), 0, none⟩,
      ⟨some 22, (.load 23 (.tmp 21)), 23, none⟩,
      ⟨some 23, (.move (.tmp 0)), 22, none⟩,
      ⟨some 24, (.move (.tmp 5)), 3, none⟩,
      ⟨some 25, (.binOp .sub 3 (.tmp 24) (.const (.int .i64 1)) 3), 3, none⟩,
      ⟨some 26, (.indexAddr 22 (.tmp 23) (.tmp 25)), 0, none⟩,
      ⟨some 27, (.load 23 (.tmp 26)), 23, none⟩,
      ⟨some 28, (.call ⟨(.value (.tmp 18)), #[(.tmp 22), (.tmp 27)], #[23, 23]⟩), 4, none⟩] [(0, 1), (0, 2), (1, 2), (0, 3), (0, 4), (0, 5), (1, 5), (2, 5), (3, 5), (4, 5), (0, 6), (1, 6), (2, 6), (3, 6), (4, 6), (5, 6), (0, 7), (1, 7), (2, 7), (3, 7), (4, 7), (5, 7), (0, 8), (1, 8), (2, 8), (3, 8), (4, 8), (0, 9), (1, 9), (2, 9), (3, 9), (4, 9)])
    (.cond (.tmp 28)
    (.seq (.reg [] [⟨some 29, (.move (.tmp 0)), 22, none⟩,
      ⟨some 30, (.move (.tmp 5)), 3, none⟩,
      ⟨some 31, (.slice 22 (.tmp 29) (some (.tmp 30)) none none), 22, none⟩,
      ⟨some 6, (.assign (.tmp 31)), 22, none⟩])
    (.seq (.seq (.reg [] [⟨some 7, (.assign (.const (.int .i64 1))), 3, none⟩])
    (.block 2 (.loop (.seq (.seq (.reg [] [⟨some 32, (.move (.tmp 7)), 3, none⟩,
      ⟨some 33, (.move (.tmp 6)), 22, none⟩,
      ⟨some 34, (.call ⟨(.builtin .len), #[(.tmp 33)], #[22]⟩), 3, none⟩,
      ⟨some 35, (.binOp .lss 3 (.tmp 32) (.tmp 34) 3), 4, none⟩])
    (.cond (.tmp 35)
    .skip
    (.exit 2)))
    (.seq (.block 3 (.seq (.draw [] [⟨some 38, (.move (.tmp 1)), 46, none⟩,
      ⟨some 39, (.move (.tmp 6)), 22, none⟩,
      ⟨some 40, (.move (.tmp 7)), 3, none⟩,
      ⟨some 41, (.indexAddr 22 (.tmp 39) (.tmp 40)), 0, none⟩,
      ⟨some 42, (.load 23 (.tmp 41)), 23, none⟩,
      ⟨some 43, (.move (.tmp 6)), 22, none⟩,
      ⟨some 44, (.move (.tmp 7)), 3, none⟩,
      ⟨some 45, (.binOp .sub 3 (.tmp 44) (.const (.int .i64 1)) 3), 3, none⟩,
      ⟨some 46, (.indexAddr 22 (.tmp 43) (.tmp 45)), 0, none⟩,
      ⟨some 47, (.load 23 (.tmp 46)), 23, none⟩,
      ⟨some 48, (.call ⟨(.value (.tmp 38)), #[(.tmp 42), (.tmp 47)], #[23, 23]⟩), 4, none⟩,
      ⟨some 49, (.unOp .not 4 (.tmp 48)), 4, none⟩] [(0, 1), (0, 2), (1, 2), (0, 3), (0, 4), (0, 5), (1, 5), (2, 5), (3, 5), (4, 5), (0, 6), (1, 6), (2, 6), (3, 6), (4, 6), (5, 6), (0, 7), (1, 7), (2, 7), (3, 7), (4, 7), (5, 7), (0, 8), (1, 8), (2, 8), (3, 8), (4, 8), (0, 9), (1, 9), (2, 9), (3, 9), (4, 9)])
    (.cond (.tmp 49)
    (.seq (.reg [] [⟨some 50, (.move (.tmp 0)), 22, none⟩,
      ⟨some 51, (.move (.tmp 5)), 3, none⟩,
      ⟨some 52, (.move (.tmp 6)), 22, none⟩,
      ⟨some 53, (.move (.tmp 7)), 3, none⟩,
      ⟨some 54, (.indexAddr 22 (.tmp 52) (.tmp 53)), 0, none⟩,
      ⟨some 55, (.load 23 (.tmp 54)), 23, none⟩,
      ⟨some 56, (.indexAddr 22 (.tmp 50) (.tmp 51)), 0, none⟩,
      ⟨none, (.store 23 (.tmp 56) (.tmp 55)), 0, none⟩])
    (.reg [] [⟨some 57, (.move (.tmp 5)), 3, none⟩,
      ⟨some 58, (.binOp .add 3 (.tmp 57) (.const (.int .i64 1)) 3), 3, none⟩,
      ⟨some 5, (.assign (.tmp 58)), 3, none⟩]))
    .skip)))
    (.reg [] [⟨some 36, (.move (.tmp 7)), 3, none⟩,
      ⟨some 37, (.binOp .add 3 (.tmp 36) (.const (.int .i64 1)) 3), 3, none⟩,
      ⟨some 7, (.assign (.tmp 37)), 3, none⟩]))))))
    (.seq (.reg [] [⟨some 59, (.move (.tmp 0)), 22, none⟩,
      ⟨some 60, (.move (.tmp 5)), 3, none⟩,
      ⟨some 61, (.slice 22 (.tmp 59) (some (.tmp 60)) none none), 22, none⟩,
      ⟨none, (.call ⟨(.builtin .clear), #[(.tmp 61)], #[22]⟩), 0, none⟩])
    (.seq (.reg [] [⟨some 62, (.move (.tmp 0)), 22, none⟩,
      ⟨some 63, (.move (.tmp 5)), 3, none⟩,
      ⟨some 64, (.slice 22 (.tmp 62) none (some (.tmp 63)) none), 22, none⟩,
      ⟨some 4, (.assign (.tmp 64)), 22, none⟩])
    .ret))))
    .skip)))
    (.reg [] [⟨some 16, (.move (.tmp 5)), 3, none⟩,
      ⟨some 17, (.binOp .add 3 (.tmp 16) (.const (.int .i64 1)) 3), 3, none⟩,
      ⟨some 5, (.assign (.tmp 17)), 3, none⟩]))))))
    (.seq (.reg [] [⟨some 65, (.move (.tmp 0)), 22, none⟩,
      ⟨some 4, (.assign (.tmp 65)), 22, none⟩])
    .ret))))
theorem CL92 {pre suf : List AV} {sz : Nat} {els els' : List AV} {r : LRet} (hn : (pre ++ .sl lid 0 0 els.length :: suf).length ≤ 66) (h : vc Try.prog T [] A92 (FinL T [(.tmp 4)] sz r els') ⟨envOf 0 (pre ++ .sl lid 0 0 els.length :: suf), [(lid, some ⟨sz, els, 0, false⟩)]⟩) : CallL Try.prog 92 pre sz els suf r els' :=
  callL_of tok mixed Try.func92 (by kernel_rfl) (by kernel_rfl) (by kernel_rfl : Try.f92.ntmps = 66) (by kernel_rfl : Try.f92.body.bind (strip 66 (fun _ => [])) = some A92) hn h
def A99 : ACode :=
  (.seq (.reg [] [⟨some 4, (.assign (.const (.int .i64 0))), 3, none⟩])
    (.seq (.reg [] [⟨some 7, (.move (.tmp 0)), 3, none⟩,
      ⟨some 8, (.call ⟨(.value (.func 105)), #[(.tmp 7)], #[3]⟩), 4, none⟩,
      ⟨some 5, (.assign (.tmp 8)), 4, none⟩])
    (.seq (.reg [] [⟨some 9, (.move (.tmp 1)), 3, none⟩,
      ⟨some 10, (.call ⟨(.value (.func 105)), #[(.tmp 9)], #[3]⟩), 4, none⟩,
      ⟨some 6, (.assign (.tmp 10)), 4, none⟩])
    (.seq (.seq (.reg [] [⟨some 11, (.move (.tmp 5)), 4, none⟩])
    (.cond (.tmp 11)
    (.seq (.seq (.reg [] [⟨some 12, (.move (.tmp 6)), 4, none⟩])
    (.cond (.tmp 12)
    (.seq (.reg [] [⟨some 4, (.assign (.const (.int .i64 0))), 3, none⟩])
    .ret)
    .skip))
    (.seq (.reg [] [⟨some 4, (.assign (.const (.int .i64 (-1)))), 3, none⟩])
    .ret))
    .skip))
    (.seq (.seq (.reg [] [⟨some 13, (.move (.tmp 6)), 4, none⟩])
    (.cond (.tmp 13)
    (.seq (.reg [] [⟨some 4, (.assign (.const (.int .i64 1))), 3, none⟩])
    .ret)
    .skip))
    (.seq (.seq (.reg [] [⟨some 14, (.move (.tmp 0)), 3, none⟩,
      ⟨some 15, (.move (.tmp 1)), 3, none⟩,
      ⟨some 16, (.binOp .lss 3 (.tmp 14) (.tmp 15) 3), 4, none⟩])
    (.cond (.tmp 16)
    (.seq (.reg [] [⟨some 4, (.assign (.const (.int .i64 (-1)))), 3, none⟩])
    .ret)
    .skip))
    (.seq (.seq (.reg [] [⟨some 17, (.move (.tmp 0)), 3, none⟩,
      ⟨some 18, (.move (.tmp 1)), 3, none⟩,
      ⟨some 19, (.binOp .gtr 3 (.tmp 17) (.tmp 18) 3), 4, none⟩])
    (.cond (.tmp 19)
    (.seq (.reg [] [⟨some 4, (.assign (.const (.int .i64 1))), 3, none⟩])
    .ret)
    .skip))
    (.seq (.reg [] [⟨some 4, (.assign (.const (.int .i64 0))), 3, none⟩])
    .ret))))))))
theorem C99 {args : List AV} {r : AV} (hn : args.length ≤ 20) (h : vc Try.prog T [] A99 (Fin T [(.tmp 4)] r) ⟨envOf 0 args, []⟩) : CallP Try.prog 99 args r :=
  callP_of tok mixed Try.func99 (by kernel_rfl) (by kernel_rfl) (by kernel_rfl : Try.f99.ntmps = 20) (by kernel_rfl : Try.f99.body.bind (strip 20 (fun _ => [])) = some A99) hn h
def A105 : ACode :=
  (.seq (.reg [] [⟨some 2, (.assign (.const (.bool false))), 4, none⟩])
    (.seq (.reg [] [⟨some 3, (.move (.tmp 0)), 3, none⟩,
      ⟨some 4, (.move (.tmp 0)), 3, none⟩,
      ⟨some 5, (.binOp .neq 3 (.tmp 3) (.tmp 4) 3), 4, none⟩,
      ⟨some 2, (.assign (.tmp 5)), 4, none⟩])
    .ret))
theorem C105 {args : List AV} {r : AV} (hn : args.length ≤ 6) (h : vc Try.prog T [] A105 (Fin T [(.tmp 2)] r) ⟨envOf 0 args, []⟩) : CallP Try.prog 105 args r :=
  callP_of tok mixed Try.func105 (by kernel_rfl) (by kernel_rfl) (by kernel_rfl : Try.f105.ntmps = 6) (by kernel_rfl : Try.f105.body.bind (strip 6 (fun _ => [])) = some A105) hn h

end Go.Proofs.Ytnpkaemlidifgaa
end

section
/- Contracts: comparing and sorting words. -/
namespace Go.Proofs.Ytnpkaemlidifgaa
open Go.Abs Go
set_option maxRecDepth 20000
set_option maxHeartbeats 2000000
attribute [local irreducible] PreK CondK CallK CallG CallX LoopK
attribute [local simp] avsEq avEq akind teq vkind vEq

theorem isNaN_c (a : Int) : CallP Try.prog 105 [iv a] (bv false) := by
  refine C105 (by simp) ?_
  simp [A105]
def cmpI (a b : Int) : Int := if a < b then -1 else if b < a then 1 else 0
theorem cmpInt_c (a b : Int) : CallP Try.prog 99 [iv a, iv b] (iv (cmpI a b)) := by
  refine C99 (by simp) ?_
  simp [A99]
  try simp 
  repeat' (first
    | (refine CallX.pure (isNaN_c a) (by simp) (by simp) ?_; try simp )
    | (refine CallK.intro (isNaN_c a) (by simp) (by simp) ?_; try simp )
    | (refine CallG.intro (fun _ => isNaN_c a) (by simp) (by simp) ?_; try simp )
    | (refine CallX.pure (isNaN_c b) (by simp) (by simp) ?_; try simp )
    | (refine CallK.intro (isNaN_c b) (by simp) (by simp) ?_; try simp )
    | (refine CallG.intro (fun _ => isNaN_c b) (by simp) (by simp) ?_; try simp )
    | ((with_reducible refine PreK.intro ?_ ?_); (next => (first | omega | (intros; first | omega | (refine ⟨by omega, ?_⟩; repeat (first | assumption | constructor)) | assumption))); intro _; try simp )
    | fail)
  refine CondK.intro (fun h1 => ?_) (fun h1 => ?_)
  · simp at h1
  · try simp 
    repeat' (first
      | ((with_reducible refine PreK.intro ?_ ?_); (next => (first | omega | (intros; first | omega | (refine ⟨by omega, ?_⟩; repeat (first | assumption | constructor)) | assumption))); intro _; try simp )
      | fail)
    refine CondK.intro (fun h2 => ?_) (fun h2 => ?_)
    · simp at h2
    · try simp 
      repeat' (first
        | ((with_reducible refine PreK.intro ?_ ?_); (next => (first | omega | (intros; first | omega | (refine ⟨by omega, ?_⟩; repeat (first | assumption | constructor)) | assumption))); intro _; try simp )
        | fail)
      refine CondK.intro (fun h3 => ?_) (fun h3 => ?_)
      · simp at h3
        simp [cmpI, h3]
      · simp at h3
        try simp 
        repeat' (first
          | ((with_reducible refine PreK.intro ?_ ?_); (next => (first | omega | (intros; first | omega | (refine ⟨by omega, ?_⟩; repeat (first | assumption | constructor)) | assumption))); intro _; try simp )
          | fail)
        refine CondK.intro (fun h4 => ?_) (fun h4 => ?_)
        · simp at h4
          simp [cmpI, h4, show ¬ a < b by omega]
        · simp at h4
          simp [cmpI, show ¬ a < b by omega, show ¬ b < a by omega]
theorem cmpW_nil : cmpW [] [] = 0 := rfl
theorem cmpW_short (y : Int) (m : List Int) : cmpW [] (y :: m) = -1 := by simp [cmpW, bef]
theorem cmpW_long (x : Int) (l : List Int) : cmpW (x :: l) [] = 1 := by simp [cmpW, bef]
theorem cmpW_cons (x y : Int) (l m : List Int) : cmpW (x :: l) (y :: m) = if cmpI x y ≠ 0 then cmpI x y else cmpW l m := by
  unfold cmpW cmpI
  by_cases h : x = y
  · subst h; simp [bef]
  · by_cases h2 : x < y
    · simp [bef, h, h2]
    · have : y < x := by omega
      simp [bef, h, h2, this]
theorem Compare_c (a b : List Int) (ha : a.length ≤ big) (hb : b.length ≤ big) : CallP Try.prog 88 [ints a, ints b] (iv (cmpW a b)) := by
  refine C88 (by simp) ?_
  generalize hR : cmpW a b = R
  simp [A88]
  simp only [big] at ha hb
  refine LoopK.by (fun i : Nat => ⟨[(11, iv i), (10, iv a.length), (9, ints a), (0, ints a), (1, ints b)], []⟩) (fun i => a.length - i) (fun i => i ≤ a.length ∧ i ≤ b.length ∧ cmpW (a.drop i) (b.drop i) = R) 0 (by simpa using hR) (by simp) ?_
  intro i Q' ⟨hi, hib, hc⟩ hq he hr
  try simp 
  refine CondK.intro (fun h1 => ?_) (fun h1 => ?_)
  · simp at h1
    rw [drop_cons a i h1] at hc
    try simp [h1]
    repeat' (first
      | ((with_reducible refine PreK.intro ?_ ?_); (next => (first | omega | (intros; first | omega | (refine ⟨by omega, ?_⟩; repeat (first | assumption | constructor)) | assumption))); intro _; try simp [h1])
      | fail)
    refine CondK.intro (fun h2 => ?_) (fun h2 => ?_)
    · simp at h2
      rw [List.drop_eq_nil_of_le (show b.length ≤ i by omega), cmpW_long] at hc
      try simp 
      apply hr
      simp [hc]
    · simp at h2
      rw [drop_cons b i (by omega), cmpW_cons] at hc
      try simp [h2, h1]
      repeat' (first
        | (refine CallX.pure (cmpInt_c (el a i) (el b i)) (by simp) (by simp) ?_; try simp [h2, h1])
        | (refine CallK.intro (cmpInt_c (el a i) (el b i)) (by simp) (by simp) ?_; try simp [h2, h1])
        | (refine CallG.intro (fun _ => cmpInt_c (el a i) (el b i)) (by simp) (by simp) ?_; try simp [h2, h1])
        | ((with_reducible refine PreK.intro ?_ ?_); (next => (first | omega | (intros; first | omega | (refine ⟨by omega, ?_⟩; repeat (first | assumption | constructor)) | assumption))); intro _; try simp [h2, h1])
        | fail)
      refine CondK.intro (fun h3 => ?_) (fun h3 => ?_)
      · simp at h3
        rw [if_pos h3] at hc
        try simp 
        apply hr
        simp [hc]
      · simp at h3
        rw [if_neg (by simpa using h3)] at hc
        try simp 
        repeat' (first
          | ((with_reducible refine PreK.intro ?_ ?_); (next => (first | omega | (intros; first | omega | (refine ⟨by omega, ?_⟩; repeat (first | assumption | constructor)) | assumption))); intro _; try simp )
          | fail)
        exact hq (i + 1) _ ⟨by omega, by omega, hc⟩ (by omega) (by simp)
  · simp at h1
    rw [List.drop_eq_nil_of_le (by omega)] at hc
    try simp 
    apply he
    try simp 
    refine CondK.intro (fun h2 => ?_) (fun h2 => ?_)
    · simp at h2
      rw [drop_cons b i (by omega), cmpW_short] at hc
      simp [hc]
    · simp at h2
      rw [List.drop_eq_nil_of_le (by omega), cmpW_nil] at hc
      simp [hc]

/-- A list whose equal neighbours are one. -/
def compF (p : List Int) : List (List Int) → List (List Int)
  | [] => []
  | y :: l => if y = p then compF p l else y :: compF y l
def compW : List (List Int) → List (List Int)
  | [] => []
  | x :: l => x :: compF x l
theorem compF_num : ∀ (p : List Int) (l : List (List Int)), (compF p l).length ≤ l.length
  | p, [] => by simp [compF]
  | p, y :: l => by
    rw [compF]
    split
    · have := compF_num p l; simp; omega
    · have := compF_num y l; simp; omega
end Go.Proofs.Ytnpkaemlidifgaa
end

section
/- Contracts: the greatest set, by both ways; the statement StemmaGreatest. -/
namespace Go.Proofs.Ytnpkaemlidifgaa
open Go.Abs Go
set_option maxRecDepth 20000
set_option maxHeartbeats 2000000
attribute [local irreducible] PreK CondK CallK CallG CallX LoopK
attribute [local simp] avsEq avEq akind teq vkind vEq

theorem indexFunc_in (l : List Int) (hl : l.length ≤ big) (f : FuncId) (cap : List AV) (p : Int → Bool) (hp : ∀ x ∈ l, CallP Try.prog f (iv x :: cap) (bv (p x))) (h1 : ∀ m, snapL m cap = cap) (h2 : AV.refsL cap = []) (h3 : ∀ m, snapOKL m cap) :
    CallP Try.prog 98 [ints l, .fn f [] cap] (iv (idxF p 0 l)) := by
  refine C98 (by simp) ?_
  generalize hR : idxF p 0 l = R
  simp [A98]
  refine LoopK.by (fun i : Nat => ⟨[(8, iv i), (7, iv l.length), (0, ints l), (1, .fn f [] cap)], []⟩) (fun i => l.length - i) (fun i => i ≤ l.length ∧ idxF p i (l.drop i) = R) 0 (by simpa using hR) (by simp [h2]) ?_
  intro i Q' ⟨hi, hc⟩ hq he hr
  try simp 
  refine CondK.intro (fun h => ?_) (fun h => ?_)
  · simp at h
    rw [drop_cons l i h] at hc
    have hpi := hp _ (el_mem_of l i h)
    simp [h]
    refine CallX.pure (by simpa [h1] using hpi) (by simp [h3]) (by simp) ?_
    try simp 
    refine CondK.intro (fun h4 => ?_) (fun h4 => ?_)
    · simp [idxF, h4] at hc
      try simp 
      apply hr
      simp [hc]
    · simp [idxF, h4] at hc
      simp only [big] at hl
      repeat (refine PreK.intro (by first | omega | (intros; first | omega | (refine ⟨by omega, ?_⟩; simp_all; done) | (simp_all; done) | (simp_all; omega))) fun _ => ?_; (try simp ))
      exact hq (i + 1) _ ⟨by omega, hc⟩ (by omega) (by simp [h2])
  · simp at h
    rw [List.drop_eq_nil_of_le (by omega)] at hc
    simp [idxF] at hc
    try simp 
    apply he
    simp [hc]
theorem containsFunc_in (l : List Int) (hl : l.length ≤ big) (f : FuncId) (cap : List AV) (p : Int → Bool) (hp : ∀ x ∈ l, CallP Try.prog f (iv x :: cap) (bv (p x))) (h1 : ∀ m, snapL m cap = cap) (h2 : AV.refsL cap = []) (h3 : ∀ m, snapOKL m cap) :
    CallP Try.prog 69 [ints l, .fn f [] cap] (bv (l.any p)) := by
  refine C69 (by simp) ?_
  rw [← idxF_any p l 0]
  simp [A69]
  refine CallX.pure (by simpa [h1] using indexFunc_in l hl f cap p hp h1 h2 h3) (by simp [h3]) (by simp) ?_
  simp
theorem great1_c (t : List (List Int)) (p q : Nat) (hp : p < wid t) (hq : q < wid t) (hr : Rds t) : CallP Try.prog 87 [iv q, .ipt (rdsV t) 0, .ipt (iv p) 0] (bv (confM t p q)) := by
  refine C87 (by simp) ?_
  simp [A87]
  try simp 
  repeat' (first
    | (refine CallX.pure (conflict_c t p q hp hq hr) (by simp) (by simp) ?_; try simp )
    | (refine CallK.intro (conflict_c t p q hp hq hr) (by simp) (by simp) ?_; try simp )
    | (refine CallG.intro (fun _ => conflict_c t p q hp hq hr) (by simp) (by simp) ?_; try simp )
    | ((with_reducible refine PreK.intro ?_ ?_); (next => (first | omega | (intros; first | omega | (refine ⟨by omega, ?_⟩; repeat (first | assumption | constructor)) | assumption))); intro _; try simp )
    | fail)
def ofN (l : List Nat) : List Int := l.map Int.ofNat
theorem ofN_len (l : List Nat) : (ofN l).length = l.length := by simp [ofN]
theorem ofN_snoc (l : List Nat) (p : Nat) : ofN (l ++ [p]) = ofN l ++ [(p : Int)] := by simp [ofN]
theorem ofN_any (t : List (List Int)) (p : Nat) (l : List Nat) : ((ofN l).any fun x => confM t p x.toNat) = l.any fun q => confM t p q := by
  unfold ofN
  rw [List.any_map]
  congr 1
def GreatR (t : List (List Int)) : List Int × Int := if vErr t ≠ 0 then ([], vErr t) else (greatM t, 0)
theorem Greatest_c (t : List (List Int)) (h : Sm t) : CallP Try.prog 56 [rdsV t] (.tup [ints (GreatR t).1, iv (GreatR t).2]) := by
  refine C56 (by simp) ?_
  simp [A56]
  try simp 
  repeat' (first
    | (refine CallX.pure (Validate_c t h) (by simp) (by simp) ?_; try simp )
    | (refine CallK.intro (Validate_c t h) (by simp) (by simp) ?_; try simp )
    | (refine CallG.intro (fun _ => Validate_c t h) (by simp) (by simp) ?_; try simp )
    | ((with_reducible refine PreK.intro ?_ ?_); (next => (first | omega | (intros; first | omega | (refine ⟨by omega, ?_⟩; repeat (first | assumption | constructor)) | assumption))); intro _; try simp )
    | fail)
  refine CondK.intro (fun h1 => ?_) (fun h1 => ?_)
  · simp at h1
    simp [GreatR, h1]
  · simp at h1
    have hr := vErr_zero h1
    have e0 : 0 < t.length := hr.pos
    have hwd : (el t 0).length = wid t := rfl
    have hw6 := hr.w6
    have hS : GreatR t = (greatM t, 0) := by simp [GreatR, h1]
    rw [hS]
    generalize hR : greatM t = R
    unfold greatM at hR
    have hP64 : 2 ^ wid t ≤ 64 := by
      have : 2 ^ wid t ≤ 2 ^ 6 := Nat.pow_le_pow_right (by omega) hw6
      omega
    have hPc : (2 : Int) ^ wid t = ((2 ^ wid t : Nat) : Int) := by simp
    have hw62 : (wid t : Int) ≤ 62 := by omega
    generalize hPP : 2 ^ wid t = P at hR hP64 hPc
    try simp [e0, hwd, hPc, hw62]
    repeat (refine PreK.intro (by first | omega | (intros; first | omega | (refine ⟨by omega, ?_⟩; simp_all; done) | (simp_all; done) | (simp_all; omega))) fun _ => ?_; (try simp [e0, hwd, hPc, hw62]))
    refine LoopK.frz 5 (b := ⟨1, [], 1, false⟩) (by simp) (by simp) ?_
    try simp 
    refine LoopK.byF (ι := Nat × List Int) (fun x => ⟨[(22, iv x.1), (21, iv P), (5, ints x.2), (1, .pt 1 1 0 0)], [(1, some ⟨1, [rdsV t], 1, true⟩)]⟩) (fun x => P - x.1)
      (fun x => x.1 ≤ P ∧ x.2.length ≤ 6 ∧ bestL x.2 (goodsF t (wid t) x.1 (P - x.1)) = R) (0, []) ⟨Nat.zero_le _, by simp, by simpa using hR⟩ (by simp) ?_
    intro ⟨b, cur⟩ Q' ⟨hbP, hcl, hc⟩ hq he hr' hfz
    dsimp only at hbP hcl hc
    try simp 
    refine CondK.intro (fun h2 => ?_) (fun h2 => ?_)
    · simp at h2
      rw [show P - b = (P - (b + 1)) + 1 by omega, goodsF] at hc
      have hcs := (cand_spec t (wid t) b).1
      have hcl2 : (candM t (wid t) b).1.length ≤ 6 := by
        rw [hcs]
        have := List.length_filter_le (bitOn b) (List.range' 0 (wid t))
        rw [List.length_range'] at this
        omega
      have hcw : ∀ q ∈ (candM t (wid t) b).1, q < wid t := by
        intro q hq2
        rw [hcs, List.mem_filter, List.mem_range'_1] at hq2
        omega
      have hcM : takesF t b 0 (wid t) ([], true) = candM t (wid t) b := rfl
      generalize candM t (wid t) b = C at hc hcl2 hcM hcw
      try simp [e0, hwd]
      repeat (refine PreK.intro (by first | omega | (intros; first | omega | (refine ⟨by omega, ?_⟩; simp_all; done) | (simp_all; done) | (simp_all; omega))) fun _ => ?_; (try simp [e0, hwd]))
      refine LoopK.by (ι := Nat × Nat × List Nat × Bool) (fun x => ⟨[(29, iv x.1), (28, iv (wid t)), (22, iv b), (21, iv P), (6, iv b), (5, ints cur), (1, .pt 1 1 0 0), (8, bv x.2.2.2), (7, .sl 7 x.2.1 0 x.2.2.1.length)],
        [(1, some ⟨1, [rdsV t], 1, true⟩), (7, some ⟨1, (ofN x.2.2.1).map iv, x.2.1, false⟩)]⟩) (fun x => wid t - x.1)
        (fun x => x.1 ≤ wid t ∧ x.2.2.1.length ≤ x.1 ∧ (∀ q ∈ x.2.2.1, q < wid t) ∧ takesF t b x.1 (wid t - x.1) (x.2.2.1, x.2.2.2) = C) (0, 1, [], true) ⟨Nat.zero_le _, by simp, by simp, by simpa using hcM⟩ (by simp [ofN]) ?_
      intro ⟨p, v, l, good⟩ Q2 ⟨hpw, hll, hlw, hc2⟩ hq2 he2 hr2
      dsimp only at hpw hll hlw hc2
      try simp 
      refine CondK.intro (fun h3 => ?_) (fun h3 => ?_)
      · simp at h3
        have h3' : p < wid t := by omega
        rw [show wid t - p = (wid t - (p + 1)) + 1 by omega, takesF] at hc2
        obtain ⟨D, hD⟩ : ∃ D : Nat, D = b / 2 ^ p := ⟨_, rfl⟩
        have hfd : (b : Int).fdiv ((2 : Int) ^ p) = (D : Int) := by
          rw [show ((2 : Int) ^ p) = ((2 ^ p : Nat) : Int) by simp, hD]
          exact (Int.ofNat_fdiv b (2 ^ p)).symm
        have hdb : D ≤ 64 := by rw [hD]; exact Nat.le_trans (Nat.div_le_self _ _) (by omega)
        have hdl : (D : Int) < 4611686018427387904 := by omega
        have hbit : bitOn b p = decide (D % 2 = 1) := by rw [hD]; rfl
        have hlen := ofN_len l
        have htk : List.take l.length (List.map iv (ofN l)) = List.map iv (ofN l) := List.take_of_length_le (by simp [hlen])
        by_cases hE : D % 2 = 1
        · have hand : D &&& 1 = 1 := by rw [Nat.and_one_is_mod, hE]
          rw [hbit, decide_eq_true hE, if_pos rfl] at hc2
          have hsd := side_c t p h3' hr
          have hany := ofN_any t p l
          have hcf := containsFunc_in (ofN l) (sbig (by omega)) 87 [.ipt (rdsV t) 0, .ipt (iv p) 0] (fun x => confM t p x.toNat) (fun x hx => by
            obtain ⟨q, hq', rfl⟩ := List.mem_map.1 hx
            exact great1_c t p q h3' (hlw q hq') hr) (by simp [snapL, snap]) (by simp [AV.refsL, AV.refs]) (by simp [snapOKL, snapOK])
          rw [hany] at hcf
          have htake : takeP t p (l, good) = (l ++ [p], good && splits t p && !l.any fun q => confM t p q) := rfl
          rw [htake] at hc2
          have hsp : decide (diffN (colM t p) = 2) = splits t p := rfl
          rw [hsp] at hsd
          generalize splits t p = sp at hsd hc2
          generalize (l.any fun q => confM t p q) = cf at hcf hc2
          try simp [h3', hfd, hdl, hand]
          repeat (refine PreK.intro (by first | omega | (intros; first | omega | (refine ⟨by omega, ?_⟩; simp_all; done) | (simp_all; done) | (simp_all; omega))) fun _ => ?_; (try simp [h3', hfd, hdl, hand]))
          refine CondK.ff ?_
          try simp 
          try simp 
          repeat' (first
            | (refine CallX.pure (hsd) (by simp) (by simp) ?_; try simp )
            | (refine CallK.intro (hsd) (by simp) (by simp) ?_; try simp )
            | (refine CallG.intro (fun _ => hsd) (by simp) (by simp) ?_; try simp )
            | ((with_reducible refine PreK.intro ?_ ?_); (next => (first | omega | (intros; first | omega | (refine ⟨by omega, ?_⟩; repeat (first | assumption | constructor)) | assumption))); intro _; try simp )
            | fail)
          cases good with
          | true =>
            cases sp with
            | true =>
              try simp [htk]
              repeat (refine PreK.intro (by first | omega | (intros; first | omega | (refine ⟨by omega, ?_⟩; simp_all; done) | (simp_all; done) | (simp_all; omega))) fun _ => ?_; (try simp [htk]))
              refine CallG.intro (fun _ => by simpa [htk] using hcf) (by simp [hlen]) (by simp) ?_
              try simp [hlen]
              repeat (refine PreK.intro (by first | omega | (intros; first | omega | (refine ⟨by omega, ?_⟩; simp_all; done) | (simp_all; done) | (simp_all; omega))) fun _ => ?_; (try simp [hlen]))
              refine hq2 (p + 1, v + 1, l ++ [p], !cf) _ ⟨by dsimp only; omega, by simp; omega, fun q hqm => ?_, by simpa using hc2⟩ (by dsimp only; omega) (by simp [ofN_snoc, htk])
              rcases List.mem_append.1 hqm with hqm | hqm
              · exact hlw q hqm
              · rw [List.mem_singleton] at hqm; rw [hqm]; exact h3'
            | false =>
              try simp [htk]
              repeat (refine PreK.intro (by first | omega | (intros; first | omega | (refine ⟨by omega, ?_⟩; simp_all; done) | (simp_all; done) | (simp_all; omega))) fun _ => ?_; (try simp [htk]))
              refine CallG.intro (r := bv true) (fun hh => by cases hh) (by simp) (by simp) ?_
              try simp [hlen]
              repeat (refine PreK.intro (by first | omega | (intros; first | omega | (refine ⟨by omega, ?_⟩; simp_all; done) | (simp_all; done) | (simp_all; omega))) fun _ => ?_; (try simp [hlen]))
              refine hq2 (p + 1, v + 1, l ++ [p], false) _ ⟨by dsimp only; omega, by simp; omega, fun q hqm => ?_, by simpa using hc2⟩ (by dsimp only; omega) (by simp [ofN_snoc, htk])
              rcases List.mem_append.1 hqm with hqm | hqm
              · exact hlw q hqm
              · rw [List.mem_singleton] at hqm; rw [hqm]; exact h3'
          | false =>
            try simp [htk]
            repeat (refine PreK.intro (by first | omega | (intros; first | omega | (refine ⟨by omega, ?_⟩; simp_all; done) | (simp_all; done) | (simp_all; omega))) fun _ => ?_; (try simp [htk]))
            refine CallG.intro (r := bv true) (fun hh => by cases hh) (by simp) (by simp) ?_
            try simp [hlen]
            repeat (refine PreK.intro (by first | omega | (intros; first | omega | (refine ⟨by omega, ?_⟩; simp_all; done) | (simp_all; done) | (simp_all; omega))) fun _ => ?_; (try simp [hlen]))
            refine hq2 (p + 1, v + 1, l ++ [p], false) _ ⟨by dsimp only; omega, by simp; omega, fun q hqm => ?_, by simpa using hc2⟩ (by dsimp only; omega) (by simp [ofN_snoc, htk])
            rcases List.mem_append.1 hqm with hqm | hqm
            · exact hlw q hqm
            · rw [List.mem_singleton] at hqm; rw [hqm]; exact h3'
        · have hand : D &&& 1 = 0 := by rw [Nat.and_one_is_mod]; omega
          rw [hbit, decide_eq_false hE, if_neg (by simp)] at hc2
          try simp [h3', hfd, hdl, hand]
          repeat (refine PreK.intro (by first | omega | (intros; first | omega | (refine ⟨by omega, ?_⟩; simp_all; done) | (simp_all; done) | (simp_all; omega))) fun _ => ?_; (try simp [h3', hfd, hdl, hand]))
          refine CondK.tt ?_
          try simp 
          repeat (refine PreK.intro (by first | omega | (intros; first | omega | (refine ⟨by omega, ?_⟩; simp_all; done) | (simp_all; done) | (simp_all; omega))) fun _ => ?_; (try simp ))
          exact hq2 (p + 1, v, l, good) _ ⟨by dsimp only; omega, by dsimp only; omega, hlw, hc2⟩ (by dsimp only; omega) (by simp)
      · simp at h3
        have : p = wid t := by omega
        subst this
        simp only [Nat.sub_self, takesF] at hc2
        subst hc2
        dsimp only at hc hcl2
        have hlen := ofN_len l
        have htk : List.take l.length (List.map iv (ofN l)) = List.map iv (ofN l) := List.take_of_length_le (by simp [hlen])
        have hcmp := Compare_c (ofN l) cur (sbig (by omega)) (sbig (by omega))
        have hcmp0 : cmpW (ofN l) cur < 0 ↔ bef (ofN l) cur = true := by
          unfold cmpW
          by_cases e : ofN l = cur
          · rw [if_pos e, e, bef_irr]; simp
          · rw [if_neg e]
            cases bef (ofN l) cur <;> simp
        have hbt : better (ofN l) cur = (decide (cur.length < l.length) || (decide (l.length = cur.length) && bef (ofN l) cur)) := by unfold better; rw [hlen]
        have hq3 := fun x : List Int => hq (b + 1, x)
        try simp 
        apply he2
        try simp 
        refine CallG.intro (fun _ => by simpa [htk] using hcmp) (by simp [hlen]) (by simp) ?_
        try simp 
        refine PreK.intro (fun g1 g2 => ⟨fun g3 => ⟨⟨g1, g2⟩, g3⟩, g1, g2⟩) fun _ => ?_
        try simp 
        repeat (refine PreK.intro (by first | omega | (intros; first | omega | (refine ⟨by omega, ?_⟩; simp_all; done) | (simp_all; done) | (simp_all; omega))) fun _ => ?_; (try simp ))
        refine CondK.intro (fun h5 => ?_) (fun h5 => ?_)
        · have hg : good = true ∧ better (ofN l) cur = true := by
            rw [hbt]
            simp only [Bool.and_eq_true, Bool.or_eq_true, decide_eq_true_eq] at h5 ⊢
            rcases h5 with ⟨g1, g2 | ⟨g2, g3⟩⟩
            · exact ⟨g1, .inl g2⟩
            · exact ⟨g1, .inr ⟨by omega, hcmp0.1 g3⟩⟩
          rw [hg.1] at hc
          simp only [if_true, bestL] at hc
          rw [show (List.map Int.ofNat l) = ofN l from rfl, if_pos hg.2] at hc
          try simp [htk]
          repeat (refine PreK.intro (by first | omega | (intros; first | omega | (refine ⟨by omega, ?_⟩; simp_all; done) | (simp_all; done) | (simp_all; omega))) fun _ => ?_; (try simp [htk]))
          refine hfz 7 ⟨1, (ofN l).map iv, v, false⟩ _ (by simp) (by simp) ?_
          refine hq3 (ofN l) _ ⟨by dsimp only; omega, by dsimp only; omega, hc⟩ (by dsimp only; omega) (by simp [htk, hlen])
        · have hg : good = false ∨ better (ofN l) cur = false := by
            rw [hbt]
            cases good with
            | false => exact .inl rfl
            | true =>
              right
              simp only [Bool.true_and, Bool.or_eq_false_iff, Bool.and_eq_false_imp, decide_eq_true_eq, decide_eq_false_iff_not] at h5 ⊢
              refine ⟨h5.1, fun g2 => ?_⟩
              rw [← Bool.not_eq_true, ← hcmp0]
              exact h5.2 (by omega)
          have hc3 : bestL cur (goodsF t (wid t) (b + 1) (P - (b + 1))) = R := by
            rcases hg with hg | hg
            · rw [hg] at hc; simpa using hc
            · cases good with
              | false => simpa using hc
              | true =>
                simp only [if_true, bestL] at hc
                rw [show (List.map Int.ofNat l) = ofN l from rfl, hg, if_neg (by simp)] at hc
                exact hc
          repeat (refine PreK.intro (by first | omega | (intros; first | omega | (refine ⟨by omega, ?_⟩; simp_all; done) | (simp_all; done) | (simp_all; omega))) fun _ => ?_; (try simp ))
          exact hq3 cur _ ⟨by dsimp only; omega, hcl, hc3⟩ (by dsimp only; omega) (by simp)
    · simp at h2
      have : b = P := by omega
      subst this
      simp only [Nat.sub_self, goodsF, bestL] at hc
      subst hc
      try simp 
      apply he
      try simp 
end Go.Proofs.Ytnpkaemlidifgaa
end

section
/- PURSE -/
/- Contracts: the greatest set in the document; the statement StemmaGreatest. -/
namespace Go.Proofs.Ytnpkaemlidifgaa
open Go.Abs Go
set_option maxRecDepth 20000
set_option maxHeartbeats 8000000
attribute [local irreducible] PreK CondK CallK CallG CallX LoopK
attribute [local simp] avsEq avEq akind teq vkind vEq

theorem moreF_len (t : List (List Int)) (p : Nat) : ∀ l : List (List Int), (moreF t p l).length ≤ l.length
  | [] => Nat.le_refl 0
  | s :: l => by
    have := moreF_len t p l
    rw [moreF]
    split
    · simp; omega
    · simp; omega
structure SetsIn (w p : Nat) (S : List (List Int)) : Prop where
  len : S.length ≤ 2 ^ p
  pos : 0 < S.length
  els : ∀ s ∈ S, s.length ≤ p ∧ ∀ x ∈ s, ∃ q : Nat, x = (q : Int) ∧ q < w
theorem SetsIn.step {w p : Nat} {S : List (List Int)} (h : SetsIn w p S) (t : List (List Int)) (hp : p < w) : SetsIn w (p + 1) (S ++ moreF t p S.reverse) := by
  have h1 := h.len
  have h2 := moreF_len t p S.reverse
  rw [List.length_reverse] at h2
  refine ⟨by rw [List.length_append, Nat.pow_succ]; omega, by have := h.pos; simp; omega, fun s hs => ?_⟩
  rcases List.mem_append.1 hs with hs | hs
  · have := h.els s hs
    exact ⟨by omega, this.2⟩
  · obtain ⟨s', hs', _, rfl⟩ := mem_more.1 hs
    have := h.els s' (by simpa using hs')
    refine ⟨by simp; omega, fun x hx => ?_⟩
    rcases List.mem_append.1 hx with hx | hx
    · exact this.2 x hx
    · rw [List.mem_singleton] at hx
      exact ⟨p, hx, hp⟩
theorem great_len (t : List (List Int)) : (greatM t).length ≤ wid t := by
  unfold greatM
  rcases (bestL_spec (goodsF t (wid t) 0 (2 ^ wid t)) []).1 with e | e
  · rw [e]; simp
  · obtain ⟨k, _, _, _, h4⟩ := mem_goods.1 e
    rw [h4, List.length_map, (cand_spec t (wid t) k).1]
    have := List.length_filter_le (bitOn k) (List.range' 0 (wid t))
    simpa using this
end Go.Proofs.Ytnpkaemlidifgaa
end

section
/- Functions of the cut as the value layer reads them. (written by gen.py) -/
set_option maxRecDepth 20000
namespace Go.Proofs.Ytnpkaemlidifgaa
open Go.Abs Go

end Go.Proofs.Ytnpkaemlidifgaa
end

section
/- Contracts: the checks of package rule. -/
namespace Go.Proofs.Ytnpkaemlidifgaa
open Go.Abs Go
set_option maxRecDepth 20000
set_option maxHeartbeats 2000000
attribute [local irreducible] PreK CondK CallK CallG CallX LoopK

theorem equal_c (a b : List Int) (ha : a.length ≤ big) : CallP Try.prog 82 [ints a, ints b] (bv (decide (a = b))) := by
  refine C82 (by simp) ?_
  generalize hR : decide (a = b) = R
  simp [A82]
  refine CondK.intro (fun h => ?_) (fun h => ?_)
  · simp at h
    have : a ≠ b := fun e => h (by rw [e])
    simp [this] at hR
    simp [hR]
  · simp at h
    simp
    refine LoopK.by (fun i : Nat => ⟨[(13, iv i), (12, iv a.length), (0, ints a), (1, ints b)], []⟩) (fun i => a.length - i) (fun i => i ≤ a.length ∧ decide (a.drop i = b.drop i) = R) 0 (by simpa using hR) (by simp) ?_
    intro i Q' ⟨hi, hc⟩ hq he hr
    simp
    refine CondK.intro (fun h2 => ?_) (fun h2 => ?_)
    · simp at h2
      rw [drop_cons a i h2, drop_cons b i (by omega)] at hc
      simp [h2, show i < b.length by omega]
      refine CondK.intro (fun h3 => ?_) (fun h3 => ?_)
      · simp at h3
        simp [h3] at hc
        simp
        apply hr
        simp [hc]
      · simp at h3
        simp [h3] at hc
        simp
        refine PreK.intro (by simp only [big] at ha; omega) fun _ => ?_
        simp
        exact hq (i + 1) _ ⟨by omega, by simpa using hc⟩ (by omega) (by simp)
    · simp at h2
      rw [List.drop_eq_nil_of_le (by omega), List.drop_eq_nil_of_le (by omega)] at hc
      simp at hc
      simp
      apply he
      simp [hc]

end Go.Proofs.Ytnpkaemlidifgaa
end

section
/- Contracts: equal neighbours left out, and the sort of words. -/
namespace Go.Proofs.Ytnpkaemlidifgaa
open Go.Abs Go
set_option maxRecDepth 20000
set_option maxHeartbeats 2000000
attribute [local irreducible] PreK CondK CallK CallG CallX LoopK
attribute [local simp] avsEq avEq akind teq vkind vEq

theorem take_setG {α : Type} [Inhabited α] (o : List α) (i : Nat) (v : α) (hi : i < o.length) : (o.set i v).take (i + 1) = o.take i ++ [v] := by
  rw [take_succ _ i (by simpa using hi)]
  have : el (o.set i v) i = v := by unfold el; simp [hi]
  rw [this, List.take_set, List.set_eq_of_length_le (by simp; omega)]
theorem compact_L (l : List (List Int)) (hl : l.length ≤ 1000) (hw : ∀ w ∈ l, w.length ≤ 1000) :
    CallL Try.prog 92 [] 1 (l.map ints) [.fn 82 [] []] (.part (compW l).length) ((compW l).map ints ++ List.replicate (l.length - (compW l).length) (.seq 1 [] true)) := by
  refine CL92 (by simp) ?_
  have hel : ∀ i, (el l i).length ≤ 1000 := by
    intro i
    by_cases h : i < l.length
    · exact hw _ (el_mem_of l i h)
    · unfold el; rw [List.getD_eq_getElem?_getD, List.getElem?_eq_none (by omega)]; simp [default]
  generalize hR : compW l = R
  simp [A92]
  refine CondK.intro (fun h1 => ?_) (fun h1 => ?_)
  · simp at h1
    have : R = l := by
      rw [← hR]
      match l, h1 with
      | [], _ => rfl
      | [x], _ => rfl
      | _ :: _ :: _, h1 => simp at h1; omega
    subst this
    simp
  · simp at h1
    try simp 
    have h0 : l.take 1 ++ compF (el l 0) (l.drop 1) = R := by
      rw [← hR]
      match l, h1 with
      | x :: m, _ => simp [compW, el]
    refine LoopK.by (fun k : Nat => ⟨[(5, iv ((k : Int) + 1)), (0, .sl lid 0 0 l.length), (1, .fn 82 [] [])], [(lid, some ⟨1, l.map ints, 0, false⟩)]⟩) (fun i => l.length - i) (fun k => k + 1 ≤ l.length ∧ l.take (k + 1) ++ compF (el l k) (l.drop (k + 1)) = R) 0 ⟨by omega, h0⟩ (by simp) ?_
    intro k Q' ⟨hk, hc⟩ hq he hr
    try simp 
    refine CondK.intro (fun h2 => ?_) (fun h2 => ?_)
    · simp at h2
      have h2' : k + 1 < l.length := by omega
      have h2'' : k < l.length := by omega
      have he1 := equal_c (el l (k + 1)) (el l k) (Nat.le_trans (hel _) (by unfold big; omega))
      rw [drop_cons l (k + 1) h2', compF] at hc
      repeat (refine PreK.intro (by first | omega | (intros; first | omega | (refine ⟨by omega, ?_⟩; simp_all; done) | (simp_all; done) | (simp_all; omega))) fun _ => ?_; (try simp [h2', h2'']))
      refine CallK.intro (by simpa using he1) (by simp) (by simp) ?_
      try simp 
      refine CondK.intro (fun h3 => ?_) (fun h3 => ?_)
      · simp at h3
        rw [if_pos h3, ← h3] at hc
        try simp 
        repeat' (first
          | ((with_reducible refine PreK.intro ?_ ?_); (next => (first | omega | (intros; first | omega | (refine ⟨by omega, ?_⟩; repeat (first | assumption | constructor)) | assumption))); intro _; try simp )
          | fail)
        refine LoopK.by (ι := Nat × Nat × List (List Int)) (fun x => ⟨[(7, iv ((x.1 : Int) + 1)), (5, iv x.2.1), (6, .sl lid 0 (k + 1) (l.length - (k + 1))), (0, .sl lid 0 0 l.length), (1, .fn 82 [] [])], [(lid, some ⟨1, x.2.2.map ints, 0, false⟩)]⟩) (fun x => l.length - x.1)
          (fun x => k + 1 + x.1 + 1 ≤ l.length ∧ x.2.1 ≤ k + 1 + x.1 ∧ x.2.2.length = l.length ∧ (∀ q, k + 1 + x.1 ≤ q → el x.2.2 q = el l q) ∧ x.2.2.take x.2.1 ++ compF (el l (k + 1 + x.1)) (l.drop (k + 1 + x.1 + 1)) = R) (0, k + 1, l) ⟨by dsimp only; omega, by simp, rfl, fun _ _ => rfl, hc⟩ (by simp) ?_
        intro ⟨j, i, c⟩ Q'' ⟨hj, hij, hcl, hce, hin⟩ hq' he' hr'
        dsimp only at hj hij hcl hce hin
        try simp 
        refine CondK.intro (fun h4 => ?_) (fun h4 => ?_)
        · simp at h4
          have h5 : k + 1 + j + 1 < l.length := by omega
          have e1 := hce (k + 1 + j) (by omega)
          have e2 := hce (k + 1 + (j + 1)) (by omega)
          have e3 : k + 1 + (j + 1) = k + 1 + j + 1 := rfl
          have g1 : k + 1 + j < c.length := by omega
          have g2 : k + 1 + (j + 1) < c.length := by omega
          have he2 := equal_c (el l (k + 1 + (j + 1))) (el l (k + 1 + j)) (Nat.le_trans (hel _) (by unfold big; omega))
          rw [drop_cons l _ h5, compF] at hin
          repeat (refine PreK.intro (by first | omega | (intros; first | omega | (refine ⟨by omega, ?_⟩; simp_all; done) | (simp_all; done) | (simp_all; omega))) fun _ => ?_; (try simp [g1, g2, e1, e2]))
          refine CallK.intro (by simpa using he2) (by simp) (by simp) ?_
          try simp 
          repeat (refine PreK.intro (by first | omega | (intros; first | omega | (refine ⟨by omega, ?_⟩; simp_all; done) | (simp_all; done) | (simp_all; omega))) fun _ => ?_; (try simp ))
          refine CondK.intro (fun h6 => ?_) (fun h6 => ?_)
          · simp at h6
            rw [if_neg (by rw [← e3]; exact h6)] at hin
            have g3 : i < c.length := by omega
            repeat (refine PreK.intro (by first | omega | (intros; first | omega | (refine ⟨by omega, ?_⟩; simp_all; done) | (simp_all; done) | (simp_all; omega))) fun _ => ?_; (try simp [g1, g2, e1, e2, g3]))
            refine hq' (j + 1, i + 1, c.set i (el l (k + 1 + (j + 1)))) _ ⟨by dsimp only; omega, by dsimp only; omega, by simpa using hcl, fun q hq2 => ?_, ?_⟩ (by dsimp only; omega) ?_
            · dsimp only at hq2 ⊢
              unfold el
              rw [List.getD_eq_getElem?_getD, List.getElem?_set, if_neg (by omega), ← List.getD_eq_getElem?_getD]
              exact hce q (by omega)
            · dsimp only
              rw [take_setG _ _ _ g3, List.append_assoc]
              exact hin
            · simp [List.map_set]
          · simp at h6
            rw [if_pos (by rw [← e3]; exact h6)] at hin
            repeat (refine PreK.intro (by first | omega | (intros; first | omega | (refine ⟨by omega, ?_⟩; simp_all; done) | (simp_all; done) | (simp_all; omega))) fun _ => ?_; (try simp ))
            refine hq' (j + 1, i, c) _ ⟨by dsimp only; omega, by dsimp only; omega, hcl, fun q hq2 => hce q (by dsimp only at hq2; omega), ?_⟩ (by dsimp only; omega) (by simp)
            dsimp only
            rw [h6]
            exact hin
        · simp at h4
          rw [List.drop_eq_nil_of_le (by omega)] at hin
          simp only [compF, List.append_nil] at hin
          have hRl : R.length = i := by rw [← hin]; simp; omega
          try simp 
          apply he'
          have e5 : (c.map ints).take i = R.map ints := by rw [← hin, List.map_take]
          have e6 : (c.map ints).drop (i + (l.length - i)) = [] := List.drop_eq_nil_of_le (by simp; omega)
          try simp 
          repeat' (first
            | ((with_reducible refine PreK.intro ?_ ?_); (next => (first | omega | (intros; first | omega | (refine ⟨by omega, ?_⟩; repeat (first | assumption | constructor)) | assumption))); intro _; try simp )
            | fail)
          apply hr
          simp only [e5, e6, hRl]
          try simp 
      · simp at h3
        rw [if_neg h3] at hc
        repeat (refine PreK.intro (by first | omega | (intros; first | omega | (refine ⟨by omega, ?_⟩; simp_all; done) | (simp_all; done) | (simp_all; omega))) fun _ => ?_; (try simp ))
        refine hq (k + 1) _ ⟨by omega, ?_⟩ (by omega) (by simp)
        rw [take_succ l (k + 1) h2']
        simpa using hc
    · simp at h2
      rw [List.drop_eq_nil_of_le (by omega)] at hc
      simp only [compF, List.append_nil] at hc
      rw [List.take_of_length_le (by omega)] at hc
      subst hc
      try simp 
      apply he
      try simp 
      repeat' (first
        | ((with_reducible refine PreK.intro ?_ ?_); (next => (first | omega | (intros; first | omega | (refine ⟨by omega, ?_⟩; repeat (first | assumption | constructor)) | assumption))); intro _; try simp )
        | fail)
end Go.Proofs.Ytnpkaemlidifgaa
end

section
/- The library's sort of words by any comparison that is a total order, over a lent box. -/
namespace Go.Proofs.Ytnpkaemlidifgaa
open Go.Abs Go

def ltC (cmp : List Int → List Int → Int) (a b : List Int) : Bool := decide (cmp a b < 0)
/-- A comparison that is a strict total order. -/
structure CmpT (cmp : List Int → List Int → Int) : Prop where
  irr : ∀ a, ltC cmp a a = false
  trans : ∀ {a b c}, ltC cmp a b = true → ltC cmp b c = true → ltC cmp a c = true
  total : ∀ {a b}, a ≠ b → ltC cmp a b = true ∨ ltC cmp b a = true
theorem CmpT.asymm {cmp : List Int → List Int → Int} (T : CmpT cmp) {a b : List Int} (h : ltC cmp a b = true) : ltC cmp b a = false := by
  cases hb : ltC cmp b a with
  | false => rfl
  | true =>
    have := T.trans h hb
    rw [T.irr] at this
    cases this
/-! ### lists of words in order -/
/-- No later one comes before an earlier one. -/
def inOrderG (cmp : List Int → List Int → Int) (l : List (List Int)) : Prop := l.Pairwise fun a b => ltC cmp b a = false
theorem order_sameG {cmp : List Int → List Int → Int} (T : CmpT cmp) : ∀ {l m : List (List Int)}, l.Perm m → inOrderG cmp l → inOrderG cmp m → l = m
  | [], m, h, _, _ => by simpa using h.symm
  | x :: l, [], h, _, _ => by simp at h
  | x :: l, y :: m, h, hl, hm => by
    unfold inOrderG at hl hm
    rw [List.pairwise_cons] at hl hm
    have hxy : x = y := by
      apply Classical.byContradiction
      intro hne
      have hx : x ∈ m := by
        rcases List.mem_cons.1 (h.mem_iff.1 (List.mem_cons_self)) with e | e
        · exact absurd e hne
        · exact e
      have hy : y ∈ l := by
        rcases List.mem_cons.1 (h.mem_iff.2 (List.mem_cons_self)) with e | e
        · exact absurd e.symm hne
        · exact e
      have h1 := hl.1 y hy
      have h2 := hm.1 x hx
      rcases T.total hne with e | e
      · rw [e] at h2; cases h2
      · rw [e] at h1; cases h1
    subst hxy
    rw [order_sameG T (List.Perm.cons_inv h) hl.2 hm.2]
def insG (cmp : List Int → List Int → Int) (w : List Int) : List (List Int) → List (List Int)
  | [] => [w]
  | x :: l => if ltC cmp x w then x :: insG cmp w l else w :: x :: l
/-- The words in ascending order. -/
def sortG (cmp : List Int → List Int → Int) : List (List Int) → List (List Int)
  | [] => []
  | x :: l => insG cmp x (sortG cmp l)
theorem insG_perm (cmp : List Int → List Int → Int) (w : List Int) : ∀ l : List (List Int), (insG cmp w l).Perm (w :: l)
  | [] => List.Perm.refl _
  | x :: l => by
    rw [insG]
    split
    · exact ((insG_perm cmp w l).cons x).trans (List.Perm.swap w x l)
    · exact List.Perm.refl _
theorem sortG_perm (cmp : List Int → List Int → Int) : ∀ l : List (List Int), (sortG cmp l).Perm l
  | [] => List.Perm.refl _
  | x :: l => (insG_perm cmp x (sortG cmp l)).trans ((sortG_perm cmp l).cons x)
theorem befG_flip {cmp : List Int → List Int → Int} (T : CmpT cmp) {a b : List Int} (h : ltC cmp a b = true) : ltC cmp b a = false := T.asymm h
theorem befG_no_trans {cmp : List Int → List Int → Int} (T : CmpT cmp) {a b c : List Int} (h : ltC cmp b a = false) (k : ltC cmp c b = false) : ltC cmp c a = false := by
  cases hc : ltC cmp c a with
  | false => rfl
  | true =>
    by_cases e1 : a = b
    · subst e1; rw [k] at hc; cases hc
    · by_cases e2 : b = c
      · subst e2; rw [h] at hc; cases hc
      · rcases T.total e1 with e | e
        · have := T.trans hc e
          rw [this] at k; cases k
        · rw [e] at h; cases h
theorem insG_order {cmp : List Int → List Int → Int} (T : CmpT cmp) {w : List Int} : ∀ {l : List (List Int)}, inOrderG cmp l → inOrderG cmp (insG cmp w l)
  | [], _ => by simp [insG, inOrderG]
  | x :: l, h => by
    unfold inOrderG at h
    rw [List.pairwise_cons] at h
    rw [insG]
    split
    · rename_i hb
      unfold inOrderG
      rw [List.pairwise_cons]
      refine ⟨fun y hy => ?_, insG_order T h.2⟩
      rcases List.mem_cons.1 ((insG_perm cmp w l).mem_iff.1 hy) with rfl | hy
      · exact befG_flip T hb
      · exact h.1 y hy
    · rename_i hb
      have hb' : ltC cmp x w = false := by simpa using hb
      unfold inOrderG
      rw [List.pairwise_cons]
      refine ⟨fun y hy => ?_, by rw [List.pairwise_cons]; exact h⟩
      rcases List.mem_cons.1 hy with rfl | hy
      · exact hb'
      · exact befG_no_trans T hb' (h.1 y hy)
theorem sortG_order {cmp : List Int → List Int → Int} (T : CmpT cmp) : ∀ l : List (List Int), inOrderG cmp (sortG cmp l)
  | [] => by simp [sortG, inOrderG]
  | x :: l => insG_order T (sortG_order T l)

section
open Go.Sort Go.Shelf
variable {P : Program} {ρ : Ren}
def cellG (cmp : List Int → List Int → Int) {w : World} {Y : Nat → Prop} (x y : Cell w Y) : Int := cmp x.1.1 y.1.1
theorem cellG_lt {cmp : List Int → List Int → Int} {w : World} {Y : Nat → Prop} (x y : Cell w Y) : ltOf (cellG cmp) x y = ltC cmp x.1.1 y.1.1 := rfl
theorem cellG_swo {cmp : List Int → List Int → Int} (T : CmpT cmp) {w : World} {Y : Nat → Prop} : SWO (ltOf (cellG cmp (w := w) (Y := Y))) := by
  refine ⟨fun x => ?_, fun x y z h1 h2 => ?_, fun x y z h1 h2 => ?_⟩
  · rw [cellG_lt, T.irr]
  · rw [cellG_lt] at h1 h2 ⊢
    exact T.trans h1 h2
  · rw [cellG_lt] at h1 h2 ⊢
    exact befG_no_trans T h2 h1
/-- The library's sort of words, over a lent row. -/
theorem callL_sortG {cmp : List Int → List Int → Int} (T : CmpT cmp) (L : SlLaysF.n6 P ρ) {g : FuncId} (hg : ∀ a b : List Int, a.length ≤ big → b.length ≤ big → CallP P g [ints a, ints b] (iv (cmp a b))) (d : List (List Int)) :
    CallL P (ρ.f 6) [] 1 (d.map ints) [.fn g [] []] (.val (.tup [])) ((sortG cmp d).map ints) := by
  have hsl : (sortG cmp d).length = d.length := (sortG_perm cmp d).length_eq
  refine ⟨?_, fun w X l vs hv hsz hX hXl hh hlen hargs => ?_⟩
  · obtain ⟨nm, hn, hf⟩ := L.f6
    exact ⟨_, hf, by simpa using hn, by simp [SlBodyF.n6]⟩
  obtain ⟨v0, v1, rfl⟩ : ∃ v0 v1, vs = #[v0, v1] := by
    cases vs with
    | mk l =>
      match l, hlen with
      | [a, b], _ => exact ⟨a, b, rfl⟩
  have h0 : Rep w (Yof X (mu1 l)) (mu1 l) (.sl lid 0 0 (d.map ints).length) v0 := hargs 0 (by simp)
  have h1 : Rep w (Yof X (mu1 l)) (mu1 l) (.fn g [] []) v1 := hargs 1 (by simp)
  generalize hn : (d.map ints).length = n at h0
  simp only [List.length_map] at hn
  cases h1 with
  | @fn _ _ _ _ fs cs hs ht _ _ =>
  obtain rfl : fs = #[] := Array.eq_empty_of_size_eq_zero hs
  obtain rfl : cs = #[] := Array.eq_empty_of_size_eq_zero ht
  cases h0 with
  | slOld hm hv' =>
    simp only [mu1, if_true, Option.some.injEq] at hm
    subst hm
    omega
  | slNil hm hv' =>
    obtain rfl : d = [] := List.eq_nil_of_length_eq_zero hn
    refine (AnyF.slices_SortFunc_none (P := P) (ρ := ρ) { L with } _ 0 _ w).mono fun e w' ⟨he, hw⟩ => ?_
    subst hw
    exact ⟨_, he, Ext.refl _ _, hh, .tup rfl fun i hi => absurd hi (by simp)⟩
  | @sl _ _ _ _ _ cap loc g0 n0 hm hv' hb hc hfit hz =>
    simp only [mu1, if_true, Option.some.injEq] at hm
    subst hm
    subst hn
    obtain ⟨hbig, hh⟩ := hh
    rw [hb] at hh
    obtain ⟨c, el, hheap, hcs, hlen', hone, hrep⟩ := hh.1 (by simp)
    rw [hsz] at hfit
    simp only [Nat.zero_mul, Nat.add_zero, Nat.zero_add, Nat.mul_one, List.length_map, hsz] at hfit hlen' ⊢
    let Y : Nat → Prop := Yof X (mu1 l)
    have hY0 : Y g0 := .inr (blks_mu1.2 ⟨n0, hb⟩)
    have hYlt : ∀ b, Y b → b < w.heap.size := by
      rintro b (hx | hx)
      · exact hX b hx
      · obtain ⟨n, hn⟩ := blks_mu1.1 hx
        rw [hb] at hn
        simp only [Option.some.injEq, Prod.mk.injEq] at hn
        rw [← hn.1]
        exact lt_of_heap hheap
    have hcell : ∀ i : Fin d.length, Rep w Y Mu.none (ints d[i]) (c.getD (l.base + i) undef) := by
      intro i
      have := (hrep i (by simp)).2
      simp only [List.getD_eq_getElem?_getD, List.getElem?_map, List.getElem?_eq_getElem i.2, Option.map_some, Option.getD_some, Nat.mul_one, if_false, Bool.false_eq_true] at this
      exact this
    let arr : Array (Cell w Y) := Array.ofFn (n := d.length) fun i => ⟨(d[i], c.getD (l.base + i) undef), hcell i⟩
    have harr : arr.size = d.length := Array.size_ofFn
    have hget : ∀ i (hi : i < d.length), arr[i]! = ⟨(d[i], c.getD (l.base + i) undef), hcell ⟨i, hi⟩⟩ := by
      intro i hi
      rw [getElem!_pos arr i (by rw [harr]; exact hi)]
      exact Array.getElem_ofFn ..
    have hwords : arr.toList.map (fun x => x.1.1) = d := by
      apply List.ext_getElem
      · rw [List.length_map, Array.length_toList, harr]
      · intro i h1 h2
        rw [List.getElem_map, Array.getElem_toList, ← getElem!_pos arr i (by rw [harr]; exact h2), hget i h2]
    have hmono : ∀ {m : Nat} {dk : Array (Cell w Y)} {os : Array Obj} {a : AV} {v : Value}, Rep w Y Mu.none a v → Rep (Go.Proofs.sortWorld cellV w g0 l.base m dk os) Y Mu.none a v := by
      intro m dk os a v h
      refine h.mono (fun b hb' hlt => ⟨hb', sortWorld_other hlt ?_⟩) (Mu.later.refl _)
      rintro rfl
      exact hb' hY0
    have hkey := Any.slices_SortFunc L (cellV (w := w) (Y := Y)) cellV_one (cellG cmp) (cellG_swo T) g #[] g0 l.base cap arr w ?_ ?_ ?_ (lt_of_heap hheap) ?_
    · rw [harr] at hkey
      refine hkey.mono fun e w' ⟨he, d', n, os, hp, hs, hw⟩ => ?_
      obtain ⟨hp1, _, hp2⟩ := hp
      rw [harr] at hp1
      have hd' : d'.toList.map (fun x => x.1.1) = sortG cmp d := by
        refine order_sameG T ?_ ?_ (sortG_order T d)
        · have e1 : d'.extract 0 d.length = d' := by rw [← hp1]; exact Array.extract_size
          have e2 : arr.extract 0 d.length = arr := by rw [← harr]; exact Array.extract_size
          rw [e1, e2] at hp2
          exact ((hp2.map (fun x => x.1.1)).trans (by rw [hwords])).trans (sortG_perm cmp d).symm
        · unfold inOrderG
          rw [List.pairwise_map, List.pairwise_iff_getElem]
          intro i j hi hj hij
          have := hs i j (Nat.zero_le _) hij (by simpa [hp1] using hj)
          rw [cellG_lt, getElem!_pos d' j (by simpa using hj), getElem!_pos d' i (by simpa using hi)] at this
          simpa using this
      subst hw
      refine ⟨_, he, ⟨⟨rfl, ?_⟩, rfl, rfl, sortWorld_size, fun b hlt hno => sortWorld_other hlt ?_⟩, ⟨by simpa [hsl] using hbig, ?_⟩, .tup rfl fun i hi => absurd hi (by simp)⟩
      · exact Nat.le_add_right _ _
      · rintro rfl
        exact hno (blks_mu1.2 ⟨n0, hb⟩)
      · rw [hb]
        refine ⟨fun _ => ⟨_, el, sortWorld_at hheap, by simpa [Go.Sort.putCells] using hcs, by simpa [hsl] using hlen', fun j hj => ?_, fun i hi => ?_⟩, fun h => by cases h⟩
        · rw [putCells_getD (by omega)]
          split
          · exact cellV_one _
          · exact hone j hj
        · have hi' : i < d.length := by simpa [hsl] using hi
          have hi2 : i < d'.toList.length := by simpa [hp1] using hi'
          have e3 : (List.map ints (sortG cmp d)).getD i .junk = ints (d'[i]!).1.1 := by
            rw [← hd', List.map_map, List.getD_eq_getElem?_getD, List.getElem?_map, List.getElem?_eq_getElem hi2, getElem!_pos d' i (by simpa using hi2)]
            simp
          rw [e3]
          have hi3 : i < d'.size := by rw [hp1]; exact hi'
          have hlt : l.base + i * 1 < c.size := by rw [hcs]; omega
          refine ⟨rfl, ?_⟩
          show Rep _ _ Mu.none _ ((Go.Sort.putCells cellV l.base d' c).getD (l.base + i * 1) undef)
          rw [putCells_getD hlt, if_pos (by omega), show l.base + i * 1 - l.base = i by omega]
          exact hmono (d'[i]!).2
    · intro args w1
      obtain ⟨fn, hf, hname, hbody⟩ := (hg [] [] (by simp) (by simp)).1
      cases hb2 : fn.body with
      | none => exact absurd hb2 hbody
      | some code => exact enters_of hf (by simpa using hname) hb2 args w1
    · intro m os dk hdk x y
      refine ((hg x.1.1 y.1.1 (cell_big x.2) (cell_big y.2)).2 _ Y _ (fun b hb' => Nat.lt_of_lt_of_le (hYlt b hb') sortWorld_size) rfl fun i hi => ?_).mono ?_
      · match i, hi with
        | 0, _ => exact hmono x.2
        | 1, _ => exact hmono y.2
      · rintro e w' ⟨v, he, hgw, hr⟩
        obtain ⟨rfl, _⟩ := hr.one
        exact ⟨he, _, _, grows_eq hgw⟩
    · intro j hj
      rw [harr] at hj
      rw [hget j hj]
      have hlt : l.base + j < c.size := by omega
      refine ⟨?_, ?_⟩
      · unfold World.cell?
        simp only [hheap]
        simp [cellV, Array.getD, hlt]
      · unfold World.frozen?
        simp [hheap]
    · rw [harr]
      simp only [List.length_map, big] at hbig
      omega
end
end Go.Proofs.Ytnpkaemlidifgaa
end

section
/- PURSE -/
/- Contracts: the tree that is built; the statement StemmaBuilds. -/
namespace Go.Proofs.Ytnpkaemlidifgaa
open Go.Abs Go
set_option maxRecDepth 20000
set_option maxHeartbeats 8000000
attribute [local irreducible] PreK CondK CallK CallG CallX LoopK
attribute [local simp] avsEq avEq akind teq vkind vEq

/-- The greater ones first, of as great ones the earlier. -/
def cmpB (a b : List Int) : Int := if a.length ≠ b.length then (b.length : Int) - (a.length : Int) else cmpW a b
theorem cmpB_lt (a b : List Int) : ltC cmpB a b = better a b := by
  unfold ltC cmpB better cmpW
  by_cases h : a.length = b.length
  · rw [if_neg (by simp [h])]
    by_cases e : a = b
    · subst e; simp [bef_irr]
    · rw [if_neg e]
      cases hb : bef a b <;> simp [h]
  · rw [if_pos h]
    have : decide (a.length = b.length) = false := by simp [h]
    rw [this, Bool.false_and, Bool.or_false]
    congr 1
    apply propext
    omega
theorem cmpB_total : CmpT cmpB := ⟨fun a => by rw [cmpB_lt]; exact better_irr a, fun h k => by rw [cmpB_lt] at *; exact better_trans h k, fun h => by rw [cmpB_lt, cmpB_lt]; exact better_total h⟩
theorem build1_c (a b : List Int) (ha : a.length ≤ big) (hb : b.length ≤ big) : CallP Try.prog 91 [ints a, ints b] (iv (cmpB a b)) := by
  refine C91 (by simp) ?_
  unfold cmpB
  simp [A91]
  simp only [big] at ha hb
  refine CondK.intro (fun h1 => ?_) (fun h1 => ?_)
  · simp at h1
    have h1' : ¬ a.length = b.length := by omega
    repeat (refine PreK.intro (by first | omega | (intros; first | omega | (refine ⟨by omega, ?_⟩; simp_all; done) | (simp_all; done) | (simp_all; omega))) fun _ => ?_; (try simp [h1']))
  · simp at h1
    have h1' : a.length = b.length := by omega
    have hcm := Compare_c a b (by simp only [big]; omega) (by simp only [big]; omega)
    try simp [h1']
    repeat' (first
      | (refine CallX.pure (hcm) (by simp) (by simp) ?_; try simp [h1'])
      | (refine CallK.intro (hcm) (by simp) (by simp) ?_; try simp [h1'])
      | (refine CallG.intro (fun _ => hcm) (by simp) (by simp) ?_; try simp [h1'])
      | ((with_reducible refine PreK.intro ?_ ?_); (next => (first | omega | (intros; first | omega | (refine ⟨by omega, ?_⟩; repeat (first | assumption | constructor)) | assumption))); intro _; try simp [h1'])
      | fail)
/-- The sides of the places that split. -/
def sidesF (t : List (List Int)) : Nat → Nat → List (List Int)
  | _, 0 => []
  | p, n + 1 => if diffN (colM t p) = 2 then sideF (el (colM t p) 0) 0 (colM t p) :: sidesF t (p + 1) n else sidesF t (p + 1) n
theorem sidesF_mem {t : List (List Int)} {x : List Int} : ∀ {n p : Nat}, x ∈ sidesF t p n → ∃ q, q < p + n ∧ diffN (colM t q) = 2 ∧ x = sideF (el (colM t q) 0) 0 (colM t q)
  | 0, p, h => by cases h
  | n + 1, p, h => by
    rw [sidesF] at h
    split at h
    · rename_i h2
      rcases List.mem_cons.1 h with rfl | h
      · exact ⟨p, by omega, h2, rfl⟩
      · obtain ⟨q, h3, h4⟩ := sidesF_mem h
        exact ⟨q, by omega, h4⟩
    · obtain ⟨q, h3, h4⟩ := sidesF_mem h
      exact ⟨q, by omega, h4⟩
theorem sidesF_len (t : List (List Int)) : ∀ n p, (sidesF t p n).length ≤ n
  | 0, p => Nat.le_refl 0
  | n + 1, p => by
    have := sidesF_len t n (p + 1)
    rw [sidesF]
    split
    · simp; omega
    · omega
theorem side_len (x : Int) : ∀ (l : List Int) (i : Nat), (sideF x i l).length ≤ l.length
  | [], i => Nat.le_refl 0
  | n :: l, i => by
    have := side_len x l (i + 1)
    rw [sideF]
    split
    · simp; omega
    · simp; omega
theorem compG_spec {cmp : List Int → List Int → Int} (T : CmpT cmp) : ∀ (p : List Int) (l : List (List Int)), inOrderG cmp (p :: l) → (p :: compF p l).Pairwise (fun a b => ltC cmp a b = true) ∧ ∀ z, z ∈ p :: compF p l ↔ z ∈ p :: l
  | p, [], _ => by simp [compF]
  | p, y :: l, h => by
    unfold inOrderG at h
    rw [List.pairwise_cons] at h
    rw [compF]
    split
    · rename_i e
      subst e
      obtain ⟨h1, h2⟩ := compG_spec T y l h.2
      exact ⟨h1, fun z => by rw [h2]; simp⟩
    · rename_i e
      obtain ⟨h1, h2⟩ := compG_spec T y l h.2
      have hpy : ltC cmp p y = true := by
        rcases T.total e with k | k
        · rw [h.1 y (by simp)] at k; cases k
        · exact k
      refine ⟨?_, fun z => ?_⟩
      · have h3 := h1
        rw [List.pairwise_cons] at h1 ⊢
        refine ⟨fun z hz => ?_, h3⟩
        rcases List.mem_cons.1 hz with rfl | hz
        · exact hpy
        · exact T.trans hpy (h1.1 z hz)
      · rw [List.mem_cons, h2, ← List.mem_cons]
theorem uniqG_spec {cmp : List Int → List Int → Int} (T : CmpT cmp) (l : List (List Int)) : (compW (sortG cmp l)).Pairwise (fun a b => ltC cmp a b = true) ∧ ∀ z, z ∈ compW (sortG cmp l) ↔ z ∈ l := by
  have ho := sortG_order T l
  have hm : ∀ z, z ∈ sortG cmp l ↔ z ∈ l := fun z => (sortG_perm cmp l).mem_iff
  generalize sortG cmp l = m at ho hm
  cases m with
  | nil => exact ⟨List.Pairwise.nil, fun z => by rw [← hm]; simp [compW]⟩
  | cons x m =>
    obtain ⟨h1, h2⟩ := compG_spec T x m ho
    exact ⟨h1, fun z => by rw [← hm]; exact h2 z⟩
theorem nest_built {t : List (List Int)} (hr : Rds t) (hc : confsM t = []) : Nest t.length (compW (sortG cmpB (sidesF t 0 (wid t)))) ∧ (compW (sortG cmpB (sidesF t 0 (wid t)))).length ≤ 6 ∧ ∀ l ∈ compW (sortG cmpB (sidesF t 0 (wid t))), l.length ≤ 6 := by
  have hw6 := hr.w6
  have hn := hr.num
  obtain ⟨h1, h2⟩ := uniqG_spec cmpB_total (sidesF t 0 (wid t))
  have h3 : ∀ l ∈ compW (sortG cmpB (sidesF t 0 (wid t))), ∃ p, p < wid t ∧ diffN (colM t p) = 2 ∧ l = sideF (el (colM t p) 0) 0 (colM t p) := by
    intro l hl
    obtain ⟨q, a1, a2⟩ := sidesF_mem ((h2 l).1 hl)
    exact ⟨q, by omega, a2⟩
  refine ⟨nest_of hr (h1.imp fun h => by rw [← cmpB_lt]; exact h) h3 (confs_nil.1 hc), ?_, fun l hl => ?_⟩
  · have h4 := sidesF_len t (wid t) 0
    have h5 := (sortG_perm cmpB (sidesF t 0 (wid t))).length_eq
    generalize sortG cmpB (sidesF t 0 (wid t)) = m at h5
    cases m with
    | nil => simp [compW]
    | cons x m =>
      have := compF_num x m
      simp only [compW, List.length_cons] at h5 ⊢
      omega
  · obtain ⟨p, _, _, rfl⟩ := h3 l hl
    have := side_len (el (colM t p) 0) (colM t p) 0
    rw [colM_len] at this
    omega
def BuildR (t : List (List Int)) : (List Int × List Int) × Bool × Int :=
  if vErr t ≠ 0 then (([], []), false, vErr t) else if 0 < (confsM t).length then (([], []), false, 0) else (buildM t.length (compW (sortG cmpB (sidesF t 0 (wid t)))), true, 0)
theorem sidesF_has {t : List (List Int)} {q : Nat} (h2 : diffN (colM t q) = 2) : ∀ {n p : Nat}, p ≤ q → q < p + n → sideF (el (colM t q) 0) 0 (colM t q) ∈ sidesF t p n
  | 0, p, h, k => by omega
  | n + 1, p, h, k => by
    rw [sidesF]
    by_cases e : p = q
    · subst e
      rw [if_pos h2]; simp
    · have := sidesF_has h2 (n := n) (p := p + 1) (by omega) (by omega)
      split
      · exact List.mem_cons_of_mem _ this
      · exact this
theorem build_law {t : List (List Int)} : (BuildR t).2.2 = (CanR t).2 ∧ (BuildR t).2.1 = (CanR t).1 ∧ ((BuildR t).2.1 = false → (BuildR t).1.1.length = 0 ∧ (BuildR t).1.2.length = 0) ∧ ((BuildR t).2.1 = true → Rds t ∧ (BuildR t).1.1.length ≤ 7 ∧ (BuildR t).1.2.length = t.length ∧ treeErr (BuildR t).1.1 (BuildR t).1.2 = 0 ∧
    ∀ p : Nat, p < wid t → DiffR t p = (((diffN (colM t p) : Nat) : Int), 0) ∧ (diffN (colM t p) = 2 → FewR t (BuildR t).1.1 (BuildR t).1.2 p = (1, true, 0))) := by
  by_cases h1 : vErr t = 0
  · have hv : ¬ (vErr t ≠ 0) := fun h => h h1
    by_cases h2 : 0 < (confsM t).length
    · have eB : BuildR t = (([], []), false, 0) := by unfold BuildR; rw [if_neg hv, if_pos h2]
      have eC : CanR t = (false, 0) := by
        unfold CanR
        have : decide ((confsM t).length = 0) = false := by
          rw [decide_eq_false_iff_not]; omega
        rw [if_neg hv, this]
      rw [eB, eC]
      exact ⟨rfl, rfl, fun _ => ⟨rfl, rfl⟩, fun h => by cases h⟩
    · have eB : BuildR t = (buildM t.length (compW (sortG cmpB (sidesF t 0 (wid t)))), true, 0) := by unfold BuildR; rw [if_neg hv, if_neg h2]
      have hc := List.eq_nil_of_length_eq_zero (show (confsM t).length = 0 by omega)
      have hr := vErr_zero h1
      obtain ⟨n1, n2, n3⟩ := nest_built hr hc
      obtain ⟨b1, b2, _⟩ := buildM_spec n1
      have hte := build_tree n1 (by omega) hr.num
      have hmem := (uniqG_spec cmpB_total (sidesF t 0 (wid t))).2
      have eC : CanR t = (true, 0) := by unfold CanR; rw [if_neg hv, hc]; rfl
      rw [eB, eC]
      refine ⟨rfl, rfl, (fun h => by cases h), fun _ => ⟨hr, by dsimp only; omega, b2, hte, fun p hp => ?_⟩⟩
      have hpl : placedErr t [(p : Int)] = 0 := by
        unfold placedErr
        rw [if_neg (by simp [h1]), if_neg]
        simp [noPlace]
        omega
      refine ⟨by unfold DiffR; rw [if_neg (by simp [hpl])]; simp, fun h3 => ?_⟩
      obtain ⟨m, hm, e⟩ := List.getElem_of_mem ((hmem _).2 (sidesF_has h3 (n := wid t) (p := 0) (Nat.zero_le _) (by omega)))
      have he : el (compW (sortG cmpB (sidesF t 0 (wid t)))) m = sideF (el (colM t p) 0) 0 (colM t p) := by rw [el_eq _ _ hm]; exact e
      have h4 := build_one hr n1 (by omega) hp h3 hm he
      have hok := treeOK_of hr (treeErr_zero hte) b2 hp
      have h5 := few_same hok
      have hfe : fitsErr t (buildM t.length (compW (sortG cmpB (sidesF t 0 (wid t))))).1 (buildM t.length (compW (sortG cmpB (sidesF t 0 (wid t))))).2 [(p : Int)] = 0 := by
        have : treedErr t (buildM t.length (compW (sortG cmpB (sidesF t 0 (wid t))))).1 (buildM t.length (compW (sortG cmpB (sidesF t 0 (wid t))))).2 = 0 := by
          unfold treedErr
          rw [if_neg (by simp [h1]), if_neg (by simp [hte]), if_neg (by simp [b2])]
        unfold fitsErr
        rw [if_neg (by simp [this])]
        exact hpl
      unfold FewR
      dsimp only
      rw [if_neg (by simp [hfe]), Int.toNat_natCast]
      cases hb : bestR (buildM t.length (compW (sortG cmpB (sidesF t 0 (wid t))))).1 (prs t (buildM t.length (compW (sortG cmpB (sidesF t 0 (wid t))))).2 p) with
      | none => rw [hb] at h5; simp only at h5; omega
      | some o =>
        rw [hb] at h5
        simp only at h5 ⊢
        rw [← h5.1, h4]
  · have eB : BuildR t = (([], []), false, vErr t) := by unfold BuildR; rw [if_pos h1]
    have eC : CanR t = (false, vErr t) := by unfold CanR; rw [if_pos h1]
    rw [eB, eC]
    exact ⟨rfl, rfl, fun _ => ⟨rfl, rfl⟩, fun h => by cases h⟩
theorem Build_c (t : List (List Int)) (h : Sm t) : CallP Try.prog 58 [rdsV t] (.tup [treeV (BuildR t).1.1 (BuildR t).1.2, bv (BuildR t).2.1, iv (BuildR t).2.2]) := by
  refine C58 (by simp) ?_
  simp [A58]
  try simp 
  repeat' (first
    | (refine CallX.pure (Validate_c t h) (by simp) (by simp) ?_; try simp )
    | (refine CallK.intro (Validate_c t h) (by simp) (by simp) ?_; try simp )
    | (refine CallG.intro (fun _ => Validate_c t h) (by simp) (by simp) ?_; try simp )
    | ((with_reducible refine PreK.intro ?_ ?_); (next => (first | omega | (intros; first | omega | (refine ⟨by omega, ?_⟩; repeat (first | assumption | constructor)) | assumption))); intro _; try simp )
    | fail)
  refine CondK.intro (fun h1 => ?_) (fun h1 => ?_)
  · simp at h1
    simp [BuildR, h1]
  · simp at h1
    have hr := vErr_zero h1
    have hcf := conflicts_c t hr
    have e0 : 0 < t.length := hr.pos
    have hwd : (el t 0).length = wid t := rfl
    have hw6 := hr.w6
    have hn := hr.num
    by_cases h2 : 0 < (confsM t).length
    · try simp 
      repeat' (first
        | (refine CallX.pure (hcf) (by simp) (by simp) ?_; try simp )
        | (refine CallK.intro (hcf) (by simp) (by simp) ?_; try simp )
        | (refine CallG.intro (fun _ => hcf) (by simp) (by simp) ?_; try simp )
        | ((with_reducible refine PreK.intro ?_ ?_); (next => (first | omega | (intros; first | omega | (refine ⟨by omega, ?_⟩; repeat (first | assumption | constructor)) | assumption))); intro _; try simp )
        | fail)
      refine CondK.intro (fun h3 => ?_) (fun h3 => ?_)
      · simp [BuildR, h1, h2]
      · exact absurd h2 (of_decide_eq_false h3)
    · try simp 
      repeat' (first
        | (refine CallX.pure (hcf) (by simp) (by simp) ?_; try simp )
        | (refine CallK.intro (hcf) (by simp) (by simp) ?_; try simp )
        | (refine CallG.intro (fun _ => hcf) (by simp) (by simp) ?_; try simp )
        | ((with_reducible refine PreK.intro ?_ ?_); (next => (first | omega | (intros; first | omega | (refine ⟨by omega, ?_⟩; repeat (first | assumption | constructor)) | assumption))); intro _; try simp )
        | fail)
      refine CondK.intro (fun h3 => ?_) (fun h3 => ?_)
      · exact absurd (of_decide_eq_true h3) h2
      · have hB : BuildR t = (buildM t.length (compW (sortG cmpB (sidesF t 0 (wid t)))), true, 0) := by simp [BuildR, h1, h2]
        rw [hB]
        obtain ⟨n1, n2, n3⟩ := nest_built hr (List.eq_nil_of_length_eq_zero (by omega))
        have n4 : ∀ l ∈ sidesF t 0 (wid t), l.length ≤ 6 := fun l hl => n3 l (((uniqG_spec cmpB_total _).2 l).2 hl)
        generalize hS : sidesF t 0 (wid t) = S at n1 n2 n3 n4
        repeat (refine PreK.intro (by first | omega | (intros; first | omega | (refine ⟨by omega, ?_⟩; simp_all; done) | (simp_all; done) | (simp_all; omega))) fun _ => ?_; (try simp [e0, hwd]))
        refine LoopK.by (ι := Nat × Nat × List (List Int)) (fun x => ⟨[(30, iv x.1), (29, iv (wid t)), (6, .sl 6 x.2.1 0 x.2.2.length), (2, .pt 2 1 0 0), (0, rdsV t)], [(2, some ⟨2, [.agg [.seq 1 [] true, .seq 1 [] true]], 1, true⟩), (6, some ⟨1, x.2.2.map ints, x.2.1, false⟩)]⟩) (fun x => wid t - x.1)
          (fun x => x.1 ≤ wid t ∧ x.2.2.length ≤ x.1 ∧ x.2.2 ++ sidesF t x.1 (wid t - x.1) = S) (0, 1, []) ⟨Nat.zero_le _, by simp, by simpa using hS⟩ (by simp) ?_
        intro ⟨p, ver, acc⟩ Q' ⟨hp, hal, hc⟩ hq he hr'
        dsimp only at hp hal hc
        try simp 
        refine CondK.intro (fun h4 => ?_) (fun h4 => ?_)
        · simp at h4
          rw [show wid t - p = (wid t - (p + 1)) + 1 by omega, sidesF] at hc
          have hsd := side_c t p h4 hr
          try simp 
          repeat' (first
            | (refine CallX.pure (hsd) (by simp) (by simp) ?_; try simp )
            | (refine CallK.intro (hsd) (by simp) (by simp) ?_; try simp )
            | (refine CallG.intro (fun _ => hsd) (by simp) (by simp) ?_; try simp )
            | ((with_reducible refine PreK.intro ?_ ?_); (next => (first | omega | (intros; first | omega | (refine ⟨by omega, ?_⟩; repeat (first | assumption | constructor)) | assumption))); intro _; try simp )
            | fail)
          refine CondK.intro (fun h5 => ?_) (fun h5 => ?_)
          · simp at h5
            rw [if_pos h5] at hc
            repeat (refine PreK.intro (by first | omega | (intros; first | omega | (refine ⟨by omega, ?_⟩; simp_all; done) | (simp_all; done) | (simp_all; omega))) fun _ => ?_; (try simp [h5]))
            exact hq (p + 1, ver + 1, acc ++ [sideF (el (colM t p) 0) 0 (colM t p)]) _ ⟨by dsimp only; omega, by simp; omega, by simpa using hc⟩ (by dsimp only; omega) (by simp [h5])
          · simp at h5
            rw [if_neg h5] at hc
            repeat (refine PreK.intro (by first | omega | (intros; first | omega | (refine ⟨by omega, ?_⟩; simp_all; done) | (simp_all; done) | (simp_all; omega))) fun _ => ?_; (try simp [h5]))
            exact hq (p + 1, ver, acc) _ ⟨by dsimp only; omega, by dsimp only; omega, hc⟩ (by dsimp only; omega) (by simp)
        · simp at h4
          have : p = wid t := by omega
          subst this
          simp only [Nat.sub_self, sidesF, List.append_nil] at hc
          subst hc
          have hsl := (sortG_perm cmpB acc).length_eq
          have hs1 : CallL Try.prog 90 [] 1 (acc.map ints) [.fn 91 [] []] (.val (.tup [])) ((sortG cmpB acc).map ints) := callL_sortG cmpB_total lsort build1_c acc
          have hs2 := compact_L (sortG cmpB acc) (by omega) (fun w hw => by have := n4 w ((sortG_perm cmpB acc).mem_iff.1 hw); omega)
          try simp 
          apply he
          try simp 
          refine CallX.lend [] (id := 6) (ver := ver) (n := acc.length) (b := ⟨1, acc.map ints, ver, false⟩) [.fn 91 [] []] (.val (.tup [])) _ (by simp) (by simp) (by simp) (by simp) (by simp) (by simp) (by simp) (by simpa using hs1) ?_
          generalize sortG cmpB acc = so at hsl hs2 n1 n2 n3 ⊢
          generalize hcw : compW so = L at hs2 n1 n2 n3 ⊢
          try simp 
          refine CallX.lend [] (id := 6) (ver := ver) (n := acc.length) (b := ⟨1, so.map ints, ver, false⟩) [.fn 82 [] []] (.part L.length) _ (by simp) (by simp) (by simp) (by simp) (by simp [hsl]) (by simp) (by simp) (by simpa using hs2) ?_
          repeat (refine PreK.intro (by first | omega | (intros; first | omega | (refine ⟨by omega, ?_⟩; simp_all; done) | (simp_all; done) | (simp_all; omega))) fun _ => ?_; (try simp ))
          have hNest : Nest t.length L := n1
          have hLl : L.length ≤ 6 := n2
          have hLw : ∀ l ∈ L, l.length ≤ 6 := n3
          generalize hR : buildM t.length L = R
          unfold buildM at hR
          refine LoopK.frz 6 (b := ⟨1, L.map ints ++ List.replicate (so.length - L.length) (.seq 1 [] true), ver, false⟩) (by simp) (by simp) ?_
          try simp 
          refine LoopK.by (ι := Bool × Nat × Nat × List Int × List Int) (fun x => match x with
            | (true, k, _, up, at') => ⟨[(56, iv k), (55, iv L.length), (54, .seq 1 (L.map ints) false), (10, .pt 10 1 0 0), (2, .pt 2 1 0 0)], [(10, some ⟨2, [.agg [.seq 1 (up.map iv) true, .sl 52 1 0 t.length]], 1, true⟩), (52, some ⟨1, at'.map iv, 1, false⟩), (2, some ⟨2, [.agg [.seq 1 [] true, .seq 1 [] true]], 1, true⟩)]⟩
            | (false, k, v, up, at') => ⟨[(56, iv k), (55, iv L.length), (54, .seq 1 (L.map ints) false), (10, .pt 10 1 0 0), (2, .pt 2 1 0 0)], [(10, some ⟨2, [.agg [.sl 71 v 0 up.length, .sl 52 1 0 t.length]], 1, true⟩), (71, some ⟨1, up.map iv, v, false⟩), (52, some ⟨1, at'.map iv, 1, false⟩), (2, some ⟨2, [.agg [.seq 1 [] true, .seq 1 [] true]], 1, true⟩)]⟩) (fun x => L.length - x.2.1)
            (fun x => x.2.1 ≤ L.length ∧ x.2.2.2.2.length = t.length ∧ x.2.2.2.1.length = x.2.1 + 1 ∧ buildF x.2.1 (L.drop x.2.1) (x.2.2.2.1, x.2.2.2.2) = R) (true, 0, 0, [-1], List.replicate t.length 0) ⟨Nat.zero_le _, by simp, by simp, by simpa using hR⟩ (by simp) ?_
          intro ⟨lit, k, v, up, at'⟩ Q2 ⟨hk, hat, hup, hc2⟩ hq2 he2 hr2
          dsimp only at hk hat hup hc2
          cases lit with
          | true =>
            try simp 
            refine CondK.intro (fun h6 => ?_) (fun h6 => ?_)
            · simp at h6
              have hlp := hNest.pos _ (el_mem_of L k h6)
              have hlw := hLw _ (el_mem_of L k h6)
              have hli := hNest.inn _ (el_mem_of L k h6)
              obtain ⟨q, hq0, hqn⟩ : ∃ q : Nat, el (el L k) 0 = (q : Int) ∧ q < t.length := by
                obtain ⟨a1, a2⟩ := hli _ (el_mem_of (el L k) 0 hlp)
                exact ⟨(el (el L k) 0).toNat, by omega, a2⟩
              have hqa : q < at'.length := by omega
              rw [drop_cons L k h6, buildF, hq0, Int.toNat_natCast] at hc2
              dsimp only at hc2
              try simp [h6, hlp, hq0, hqn, hqa, hat]
              repeat (refine PreK.intro (by first | omega | (intros; first | omega | (refine ⟨by omega, ?_⟩; simp_all; done) | (simp_all; done) | (simp_all; omega))) fun _ => ?_; (try simp [h6, hlp, hq0, hqn, hqa, hat]))
              generalize el L k = l at *
              generalize hP : putAll ((k : Int) + 1) at' l = P at hc2
              have hPl : P.length = t.length := by rw [← hP, putAll_len, hat]
              refine LoopK.by (ι := Nat × List Int) (fun x => ⟨[(75, iv x.1), (74, iv l.length), (73, ints l), (56, iv k), (55, iv L.length), (54, .seq 1 (L.map ints) false), (11, iv k), (10, .pt 10 1 0 0), (2, .pt 2 1 0 0)], [(10, some ⟨2, [.agg [.sl 71 1 0 (up.length + 1), .sl 52 1 0 t.length]], 1, true⟩), (71, some ⟨1, (up ++ [el at' q]).map iv, 1, false⟩), (52, some ⟨1, x.2.map iv, 1, false⟩), (2, some ⟨2, [.agg [.seq 1 [] true, .seq 1 [] true]], 1, true⟩)]⟩) (fun x => l.length - x.1)
                (fun x => x.1 ≤ l.length ∧ x.2.length = t.length ∧ putAll ((k : Int) + 1) x.2 (l.drop x.1) = P) (0, at') ⟨Nat.zero_le _, hat, by simpa using hP⟩ (by simp) ?_
              intro ⟨j, a⟩ Q3 ⟨hj, hal3, hc3⟩ hq3 he3 hr3
              dsimp only at hj hal3 hc3
              try simp 
              refine CondK.intro (fun h7 => ?_) (fun h7 => ?_)
              · simp at h7
                obtain ⟨r, hr0, hrn⟩ : ∃ r : Nat, el l j = (r : Int) ∧ r < t.length := by
                  obtain ⟨a1, a2⟩ := hli _ (el_mem_of l j h7)
                  exact ⟨(el l j).toNat, by omega, a2⟩
                have hra : r < a.length := by omega
                rw [drop_cons l j h7, putAll, hr0, Int.toNat_natCast] at hc3
                repeat (refine PreK.intro (by first | omega | (intros; first | omega | (refine ⟨by omega, ?_⟩; simp_all; done) | (simp_all; done) | (simp_all; omega))) fun _ => ?_; (try simp [h7, hr0, hrn, hra, hal3]))
                exact hq3 (j + 1, a.set r ((k : Int) + 1)) _ ⟨by dsimp only; omega, by simpa using hal3, hc3⟩ (by dsimp only; omega) (by simp)
              · simp at h7
                rw [List.drop_eq_nil_of_le (by omega), putAll] at hc3
                subst hc3
                try simp 
                apply he3
                repeat (refine PreK.intro (by first | omega | (intros; first | omega | (refine ⟨by omega, ?_⟩; simp_all; done) | (simp_all; done) | (simp_all; omega))) fun _ => ?_; (try simp ))
                exact hq2 (false, k + 1, 1, up ++ [el at' q], a) _ ⟨by dsimp only; omega, hPl, by simp; omega, hc2⟩ (by dsimp only; omega) (by simp)
            · simp at h6
              have : k = L.length := by omega
              subst this
              rw [List.drop_eq_nil_of_le (Nat.le_refl _), buildF] at hc2
              subst hc2
              have hT3 : (at'.map iv).take t.length = at'.map iv := List.take_of_length_le (by simp [hat])
              try simp 
              apply he2
              repeat (refine PreK.intro (by first | omega | (intros; first | omega | (refine ⟨by omega, ?_⟩; simp_all; done) | (simp_all; done) | (simp_all; omega))) fun _ => ?_; (try simp [hat, hT3]))
          | false =>
            try simp 
            refine CondK.intro (fun h6 => ?_) (fun h6 => ?_)
            · simp at h6
              have hlp := hNest.pos _ (el_mem_of L k h6)
              have hlw := hLw _ (el_mem_of L k h6)
              have hli := hNest.inn _ (el_mem_of L k h6)
              obtain ⟨q, hq0, hqn⟩ : ∃ q : Nat, el (el L k) 0 = (q : Int) ∧ q < t.length := by
                obtain ⟨a1, a2⟩ := hli _ (el_mem_of (el L k) 0 hlp)
                exact ⟨(el (el L k) 0).toNat, by omega, a2⟩
              have hqa : q < at'.length := by omega
              rw [drop_cons L k h6, buildF, hq0, Int.toNat_natCast] at hc2
              dsimp only at hc2
              try simp [h6, hlp, hq0, hqn, hqa, hat]
              repeat (refine PreK.intro (by first | omega | (intros; first | omega | (refine ⟨by omega, ?_⟩; simp_all; done) | (simp_all; done) | (simp_all; omega))) fun _ => ?_; (try simp [h6, hlp, hq0, hqn, hqa, hat]))
              generalize el L k = l at *
              generalize hP : putAll ((k : Int) + 1) at' l = P at hc2
              have hPl : P.length = t.length := by rw [← hP, putAll_len, hat]
              refine LoopK.by (ι := Nat × List Int) (fun x => ⟨[(75, iv x.1), (74, iv l.length), (73, ints l), (56, iv k), (55, iv L.length), (54, .seq 1 (L.map ints) false), (11, iv k), (10, .pt 10 1 0 0), (2, .pt 2 1 0 0)], [(10, some ⟨2, [.agg [.sl 71 (v + 1) 0 (up.length + 1), .sl 52 1 0 t.length]], 1, true⟩), (71, some ⟨1, (up ++ [el at' q]).map iv, (v + 1), false⟩), (52, some ⟨1, x.2.map iv, 1, false⟩), (2, some ⟨2, [.agg [.seq 1 [] true, .seq 1 [] true]], 1, true⟩)]⟩) (fun x => l.length - x.1)
                (fun x => x.1 ≤ l.length ∧ x.2.length = t.length ∧ putAll ((k : Int) + 1) x.2 (l.drop x.1) = P) (0, at') ⟨Nat.zero_le _, hat, by simpa using hP⟩ (by simp) ?_
              intro ⟨j, a⟩ Q3 ⟨hj, hal3, hc3⟩ hq3 he3 hr3
              dsimp only at hj hal3 hc3
              try simp 
              refine CondK.intro (fun h7 => ?_) (fun h7 => ?_)
              · simp at h7
                obtain ⟨r, hr0, hrn⟩ : ∃ r : Nat, el l j = (r : Int) ∧ r < t.length := by
                  obtain ⟨a1, a2⟩ := hli _ (el_mem_of l j h7)
                  exact ⟨(el l j).toNat, by omega, a2⟩
                have hra : r < a.length := by omega
                rw [drop_cons l j h7, putAll, hr0, Int.toNat_natCast] at hc3
                repeat (refine PreK.intro (by first | omega | (intros; first | omega | (refine ⟨by omega, ?_⟩; simp_all; done) | (simp_all; done) | (simp_all; omega))) fun _ => ?_; (try simp [h7, hr0, hrn, hra, hal3]))
                exact hq3 (j + 1, a.set r ((k : Int) + 1)) _ ⟨by dsimp only; omega, by simpa using hal3, hc3⟩ (by dsimp only; omega) (by simp)
              · simp at h7
                rw [List.drop_eq_nil_of_le (by omega), putAll] at hc3
                subst hc3
                try simp 
                apply he3
                repeat (refine PreK.intro (by first | omega | (intros; first | omega | (refine ⟨by omega, ?_⟩; simp_all; done) | (simp_all; done) | (simp_all; omega))) fun _ => ?_; (try simp ))
                exact hq2 (false, k + 1, (v + 1), up ++ [el at' q], a) _ ⟨by dsimp only; omega, hPl, by simp; omega, hc2⟩ (by dsimp only; omega) (by simp)
            · simp at h6
              have : k = L.length := by omega
              subst this
              rw [List.drop_eq_nil_of_le (Nat.le_refl _), buildF] at hc2
              subst hc2
              have hT3 : (at'.map iv).take t.length = at'.map iv := List.take_of_length_le (by simp [hat])
              try simp 
              apply he2
              repeat (refine PreK.intro (by first | omega | (intros; first | omega | (refine ⟨by omega, ?_⟩; simp_all; done) | (simp_all; done) | (simp_all; omega))) fun _ => ?_; (try simp [hat, hT3]))
end Go.Proofs.Ytnpkaemlidifgaa
end

section
/- Lists of rows: made immutable, and the boxes that they name. -/
namespace Go.Proofs.Ytnpkaemlidifgaa
open Go.Abs Go
attribute [local simp] avsEq avEq akind teq vkind vEq

theorem erase_eq {α : Type} (l : List α) (i : Nat) : l.eraseIdx i = l.take i ++ l.drop (i + 1) := List.eraseIdx_eq_take_drop_succ l i
theorem del_fin {A D E : List AV} {n : Nat} (h : A.length + D.length = n - 1) (hE : E.length = 1) (hn : 1 ≤ n) {z : AV} :
    List.take (n - 1) (A ++ (D ++ E)) ++ (List.replicate (n - (n - 1)) z ++ List.drop n (A ++ (D ++ E))) = A ++ D ++ [z] := by
  have e1 : (A ++ D).length = n - 1 := by rw [List.length_append]; exact h
  have e2 : List.take (n - 1) (A ++ (D ++ E)) = A ++ D := by rw [← List.append_assoc, List.take_append_of_le_length (by omega), List.take_of_length_le (by omega)]
  have e3 : List.drop n (A ++ (D ++ E)) = [] := List.drop_eq_nil_of_le (by rw [← List.append_assoc, List.length_append]; omega)
  rw [e2, e3, show n - (n - 1) = 1 by omega, List.append_nil]
  rfl
theorem refsL_app : ∀ x y : List AV, AV.refsL (x ++ y) = AV.refsL x ++ AV.refsL y
  | [], y => rfl
  | a :: x, y => by simp [refsL_app x y]
theorem refsL_rep (e : List AV) (f : Bool) : ∀ n : Nat, AV.refsL (List.replicate n (.seq 1 e f)) = []
  | 0 => rfl
  | n + 1 => by rw [List.replicate_succ, AV.refsL, refsL_rep e f n]; rfl
end Go.Proofs.Ytnpkaemlidifgaa
end
