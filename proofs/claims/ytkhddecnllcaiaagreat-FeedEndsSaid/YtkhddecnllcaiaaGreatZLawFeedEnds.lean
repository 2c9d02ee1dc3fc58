/- Statement FeedEnds: for every input the law answers true, and each argument reads behind the call as it read before. -/
import Derived.Test.YtkhddecnllcaiaaGreatV7
import Derived.Test.YtkhddecnllcaiaaGreatV6
import Derived.OpenShut
set_option maxRecDepth 100000
set_option linter.unusedSimpArgs false
set_option linter.unusedVariables false
namespace Go.Proofs.YtkhddecnllcaiaaGreat
open Go.ChangeShapes Go.WideShapes Go.ChangeAt Go.RowKit
open Go.Abs (CallP Reads Rep Noblk Mu)

theorem feedEnds_lifted (os : Os) (started : os.Started) (H : Type) (enc : TypeId × Value → H) :
    ReturnsInHanded {} Tryz.checked os 3 .any (Rows.feedEndsSpec.pre6 enc Tryz.prog Tryz.f3 Rows.feedEndsRow.domain false) (Rows.feedEndsSpec.post enc Tryz.prog Tryz.f3 false true false false) := by
  refine returnsInHanded_of_change_sized (C := Tryz.checked) own started (by kernel_rfl) Tryz.func3
    (ChangeSpec.witness6 (enc := enc) (C := Tryz.checked) false ⟨#[], #[.slice none 0 0, .slice none 0 0], []⟩ 8 (by kernel_rfl) (by kernel_rfl) (by kernel_rfl) (by kernel_rfl)) ?_
  intro W base args ds gs before hval0 hW hcnd hsz0 _
  have hval : ∀ (j : Nat) t v, Tryz.f3.params[j]? = some t → args[j]? = some v → Value.okWide Tryz.prog W .any base t v := hval0
  have hsz : (DataW.weightsEach Tryz.prog (Tryz.f3.params.toList ++ Rows.feedEndsSpec.plain.varTypes Tryz.prog) (ds ++ gs)).all (· ≤ reachBytes) = true := hsz0
  clear hval0 hsz0
  have hW' := hW
  obtain ⟨p, q, hA0, hV, rfl, hfz, hnd⟩ := hW
  have hA : DataW.TrodAll enc Tryz.prog W 0 (fun _ => true) true Tryz.f3.params.toList args.toList ds p := hA0
  clear hA0
  rw [Tryz.params3] at hA hval hsz
  obtain ⟨v0, vs0, d0, ds0, p0, q0, hargs, rfl, rfl, h0, r0⟩ := trodAll_cons hA
  obtain ⟨v1, vs1, d1, ds1, p1, q1, rfl, rfl, rfl, h1, r1⟩ := trodAll_cons r0
  obtain ⟨rfl, rfl, rfl⟩ := trodAll_nil r1
  obtain rfl : args = #[v0, v1] := by cases args; simp_all
  obtain ⟨rfl, rfl⟩ := trodVars_none hV
  have w0 : ∀ n ∈ d0.weights Tryz.prog 22, n ≤ reachBytes := fun n hn => of_decide_eq_true (List.all_eq_true.1 hsz n (DataW.weights_mem_each (j := 0) rfl rfl n hn))
  have lt0 : ∀ x ∈ p0, x.block < W.heap.size := by obtain ⟨m, hm⟩ := h0; exact DataW.trod_lt m _ _ _ hm
  have c0 : v0.cells = #[v0] := by obtain ⟨a, len, cap, rfl⟩ := okWide_slice Tryz.underlying22 (hval 0 22 v0 rfl rfl); rfl
  obtain ⟨a0, k0⟩ := Abs.arg_one (reads_rules enc W) (fun _ => rfl) c0 h0 w0
  have w1 : ∀ n ∈ d1.weights Tryz.prog 23, n ≤ reachBytes := fun n hn => of_decide_eq_true (List.all_eq_true.1 hsz n (DataW.weights_mem_each (j := 1) rfl rfl n hn))
  have lt1 : ∀ x ∈ p1, x.block < W.heap.size := by obtain ⟨m, hm⟩ := h1; exact DataW.trod_lt m _ _ _ hm
  have c1 : v1.cells = #[v1] := by obtain ⟨a, len, cap, rfl⟩ := okWide_slice Tryz.underlying23 (hval 1 23 v1 rfl rfl); rfl
  obtain ⟨a1, k1⟩ := Abs.arg_one (reads_ints enc W) (fun _ => rfl) c1 h1 w1
  have hargsR : ∀ i, i < [rulesV a0, ints a1].length → Rep W Noblk Mu.none ([rulesV a0, ints a1].getD i .junk) ((#[v0, v1] : Array Value).getD i undef) := by
    intro i hi
    match i, hi with
    | 0, _ => exact k0
    | 1, _ => exact k1
  refine (Abs.CallP.calls (lawFeedEnds_c a0 a1 (len_of_rules k0) (len_of_ints k1)) rfl hargsR).mono fun e W' ⟨he, bel⟩ => ?_
  subst he
  exact ⟨_, rfl, _, _, _, [], _, [], hW', trodAll_mk1 (shut_bool Tryz.underlying4 _), (trodAll_cons_mk (Below.trod laidOut (by kernel_rfl) (of_decide_eq_true (by kernel_rfl)) h0 bel lt0) (trodAll_cons_mk (Below.trod laidOut (by kernel_rfl) (of_decide_eq_true (by kernel_rfl)) h1 bel lt1) trodAll_mk0)), rfl, bel.frame _, fun h => by cases h⟩
theorem feedEnds_k0 : (Rows.feedEndsRow.wf (OpenSpec.ofChange Rows.feedEndsSpec)) = true := by kernel_rfl
theorem feedEnds_k3 : (Tryz.f3.params.all (Tryz.pinned.checked.prog.readableRec ·)) = true := by kernel_rfl
theorem feedEnds_k4 : (namedTie Tryz.pinned.checked.prog Rows.feedEndsRow.named Rows.feedEndsSpec.vars) = true := by kernel_rfl
theorem feedEnds_k5 : ((Rows.feedEndsRow.stops == [])) = true := by kernel_rfl
theorem feedEnds_k7 : ((Rows.feedEndsRow.knobs == [])) = true := by kernel_rfl
theorem feedEnds_k9 : ((Rows.feedEndsRow.inPlace == Tryz.pinned.checked.prog.inPlace 3)) = true := by kernel_rfl
theorem feedEnds_k10 : ((Rows.feedEndsRow.unfollowed == Tryz.pinned.checked.prog.unfollowed 3)) = true := by kernel_rfl
theorem feedEnds_k11 : ((Rows.feedEndsRow.recurses == Tryz.pinned.checked.prog.recurses 3)) = true := by kernel_rfl
theorem feedEnds_k12 : ((Rows.feedEndsRow.named == Tryz.pinned.checked.prog.varsNamed 3)) = true := by kernel_rfl
theorem feedEnds_k13 : ((Rows.feedEndsRow.maps == (Tryz.f3.params.toList ++ Rows.feedEndsSpec.plain.varTypes Tryz.pinned.checked.prog).any (Tryz.pinned.checked.prog.mapsRec ·))) = true := by kernel_rfl
theorem feedEnds_k14 : ((Rows.feedEndsRow.ifaces == (Tryz.f3.params.toList ++ Rows.feedEndsSpec.plain.varTypes Tryz.pinned.checked.prog).any (Tryz.pinned.checked.prog.ifacesRec ·))) = true := by kernel_rfl
theorem feedEnds_k15 : ((Rows.feedEndsRow.mapsOut == Tryz.pinned.checked.prog.mapsAmong Tryz.f3.resultTypes.toList)) = true := by kernel_rfl
theorem feedEnds_k16 : ((Rows.feedEndsRow.loops == (Tryz.f3.params.toList ++ Rows.feedEndsSpec.plain.varTypes Tryz.pinned.checked.prog).any (Tryz.pinned.checked.prog.loopsFrom ·))) = true := by kernel_rfl
theorem feedEnds_k17 : ((Rows.feedEndsRow.wideKeys == (Tryz.f3.params.toList ++ Rows.feedEndsSpec.plain.varTypes Tryz.pinned.checked.prog ++ Tryz.f3.resultTypes.toList).any (Tryz.pinned.checked.prog.wideKeysFrom ·))) = true := by kernel_rfl
theorem feedEnds_k18 : (Rows.feedEndsSpec.vars.all (Tryz.pinned.checked.prog.varReadable ·)) = true := by kernel_rfl
theorem feedEnds_k19 : (Tryz.f3.resultTypes.all (fun t => Tryz.pinned.checked.prog.readableRec t && decide (t < Tryz.pinned.checked.prog.types.size))) = true := by kernel_rfl
theorem feedEnds_k20 : ((Rows.feedEndsRow.ifacesOut == Tryz.f3.resultTypes.toList.any (Tryz.pinned.checked.prog.ifacesRec ·))) = true := by kernel_rfl
theorem feedEnds_k21 : ((Rows.feedEndsRow.loopsOut == Tryz.f3.resultTypes.toList.any (Tryz.pinned.checked.prog.loopsFrom ·))) = true := by kernel_rfl
theorem feedEnds_k22 : ((Rows.feedEndsRow.plainKeys == Tryz.pinned.checked.prog.plainKeys)) = true := by kernel_rfl
theorem feedEnds_k23 : (Rows.feedEndsRow.shortTexts.isNone) = true := by kernel_rfl
theorem feedEnds_k26 : ((Rows.feedEndsRow.lifted == Tryz.pinned.checked.prog.liftsFinal)) = true := by rw [liftsFinal_no]; kernel_rfl
theorem feedEnds_k27 : ((Tryz.pinned.checked.prog.make == some Rows.feedEndsRow.make)) = true := by rw [make_cut]; kernel_rfl
theorem feedEnds_k28 : ((Rows.feedEndsRow.kinds == (if Rows.feedEndsRow.domain.isEmpty then [] else Tryz.f3.params.toList.map fun t => match Tryz.pinned.checked.prog.underlying t with | some (.int k) => some k | _ => none))) = true := by kernel_rfl
theorem feedEnds_k29 : ((Rows.feedEndsRow.pinned == Rows.feedEndsRow.pinnedBy)) = true := by kernel_rfl
theorem feedEnds_k30 : ((Rows.feedEndsRow.veiled == (Tryz.f3.params.toList ++ Rows.feedEndsSpec.plain.varTypes Tryz.pinned.checked.prog ++ Tryz.f3.resultTypes.toList).any (Tryz.pinned.checked.prog.veiledRec ·))) = true := by kernel_rfl
theorem feedEnds_k31 : (Rows.feedEndsRow.veiledFits Tryz.pinned.checked.prog Tryz.f3.params.toList (Tryz.f3.params.toList ++ Rows.feedEndsSpec.plain.varTypes Tryz.pinned.checked.prog ++ Tryz.f3.resultTypes.toList)) = true := by kernel_rfl

theorem feedEnds_proved : Rows.FeedEndsSaid :=
  OpenClaim.holds_of_wide 3 Tryz.f3 rfl rfl rfl rfl rfl rfl rfl ⟨rfl, rfl, rfl, rfl, rfl⟩ rfl rfl rfl rfl rfl (by kernel_rfl) Tryz.func3
    (joined_of feedEnds_k0 fact1 fact2 feedEnds_k3 feedEnds_k4 feedEnds_k5 fact6 feedEnds_k7 fact8 feedEnds_k9 feedEnds_k10 feedEnds_k11 feedEnds_k12 feedEnds_k13 feedEnds_k14 feedEnds_k15 feedEnds_k16 feedEnds_k17 feedEnds_k18 feedEnds_k19 feedEnds_k20 feedEnds_k21 feedEnds_k22 feedEnds_k23 fact24 mayEnter_yes feedEnds_k26 feedEnds_k27 feedEnds_k28 feedEnds_k29 feedEnds_k30 feedEnds_k31)
    (of_decide_eq_true (by kernel_rfl)) (by unfold Func.isWrapper; first | (rw [if_pos (by decide +kernel)]; kernel_rfl) | (rw [if_neg (by decide +kernel)]; exact ⟨rfl, rfl⟩))
    (fun os started H enc _ => feedEnds_lifted os started H enc)
#print axioms feedEnds_proved
end Go.Proofs.YtkhddecnllcaiaaGreat
