/- Statement FeedPaths: for every input the law answers true, and each argument reads behind the call as it read before. -/
import Derived.Test.YtaooenmkofjafaaV7
import Derived.Test.YtaooenmkofjafaaV5
import Derived.OpenShut
set_option maxRecDepth 100000
set_option linter.unusedSimpArgs false
set_option linter.unusedVariables false
namespace Go.Proofs.Ytaooenmkofjafaa
open Go.ChangeShapes Go.WideShapes Go.ChangeAt Go.RowKit
open Go.Abs (CallP Reads Rep Noblk Mu)

theorem feedPaths_lifted (os : Os) (started : os.Started) (H : Type) (enc : TypeId × Value → H) :
    ReturnsInHanded {} Try.checked os 20 .any (Rows.feedPathsSpec.pre6 enc Try.prog Try.f20 Rows.feedPathsRow.domain false) (Rows.feedPathsSpec.post enc Try.prog Try.f20 false true false false) := by
  refine returnsInHanded_of_change_sized (C := Try.checked) own started (by kernel_rfl) Try.func20
    (ChangeSpec.witness6 (enc := enc) (C := Try.checked) false ⟨#[], #[.slice none 0 0, .slice none 0 0, .slice none 0 0], []⟩ 8 (by kernel_rfl) (by kernel_rfl) (by kernel_rfl) (by kernel_rfl)) ?_
  intro W base args ds gs before hval0 hW hcnd hsz0 _
  have hval : ∀ (j : Nat) t v, Try.f20.params[j]? = some t → args[j]? = some v → Value.okWide Try.prog W .any base t v := hval0
  have hsz : (DataW.weightsEach Try.prog (Try.f20.params.toList ++ Rows.feedPathsSpec.plain.varTypes Try.prog) (ds ++ gs)).all (· ≤ reachBytes) = true := hsz0
  clear hval0 hsz0
  have hW' := hW
  obtain ⟨p, q, hA0, hV, rfl, hfz, hnd⟩ := hW
  have hA : DataW.TrodAll enc Try.prog W 0 (fun _ => true) true Try.f20.params.toList args.toList ds p := hA0
  clear hA0
  rw [Try.params20] at hA hval hsz
  obtain ⟨v0, vs0, d0, ds0, p0, q0, hargs, rfl, rfl, h0, r0⟩ := trodAll_cons hA
  obtain ⟨v1, vs1, d1, ds1, p1, q1, rfl, rfl, rfl, h1, r1⟩ := trodAll_cons r0
  obtain ⟨v2, vs2, d2, ds2, p2, q2, rfl, rfl, rfl, h2, r2⟩ := trodAll_cons r1
  obtain ⟨rfl, rfl, rfl⟩ := trodAll_nil r2
  obtain rfl : args = #[v0, v1, v2] := by cases args; simp_all
  obtain ⟨rfl, rfl⟩ := trodVars_none hV
  have w0 : ∀ n ∈ d0.weights Try.prog 22, n ≤ reachBytes := fun n hn => of_decide_eq_true (List.all_eq_true.1 hsz n (DataW.weights_mem_each (j := 0) rfl rfl n hn))
  have lt0 : ∀ x ∈ p0, x.block < W.heap.size := by obtain ⟨m, hm⟩ := h0; exact DataW.trod_lt m _ _ _ hm
  have c0 : v0.cells = #[v0] := by obtain ⟨a, len, cap, rfl⟩ := okWide_slice Try.underlying22 (hval 0 22 v0 rfl rfl); rfl
  obtain ⟨a0, k0⟩ := Abs.arg_one (reads_rules enc W) (fun _ => rfl) c0 h0 w0
  have w1 : ∀ n ∈ d1.weights Try.prog 23, n ≤ reachBytes := fun n hn => of_decide_eq_true (List.all_eq_true.1 hsz n (DataW.weights_mem_each (j := 1) rfl rfl n hn))
  have lt1 : ∀ x ∈ p1, x.block < W.heap.size := by obtain ⟨m, hm⟩ := h1; exact DataW.trod_lt m _ _ _ hm
  have c1 : v1.cells = #[v1] := by obtain ⟨a, len, cap, rfl⟩ := okWide_slice Try.underlying23 (hval 1 23 v1 rfl rfl); rfl
  obtain ⟨a1, k1⟩ := Abs.arg_one (reads_ints enc W) (fun _ => rfl) c1 h1 w1
  have w2 : ∀ n ∈ d2.weights Try.prog 88, n ≤ reachBytes := fun n hn => of_decide_eq_true (List.all_eq_true.1 hsz n (DataW.weights_mem_each (j := 2) rfl rfl n hn))
  have lt2 : ∀ x ∈ p2, x.block < W.heap.size := by obtain ⟨m, hm⟩ := h2; exact DataW.trod_lt m _ _ _ hm
  have c2 : v2.cells = #[v2] := by obtain ⟨a, len, cap, rfl⟩ := okWide_slice Try.underlying88 (hval 2 88 v2 rfl rfl); rfl
  obtain ⟨a2, k2⟩ := Abs.arg_one (reads_steps enc W) (fun _ => rfl) c2 h2 w2
  have hargsR : ∀ i, i < [rulesV a0, ints a1, stepsV a2].length → Rep W Noblk Mu.none ([rulesV a0, ints a1, stepsV a2].getD i .junk) ((#[v0, v1, v2] : Array Value).getD i undef) := by
    intro i hi
    match i, hi with
    | 0, _ => exact k0
    | 1, _ => exact k1
    | 2, _ => exact k2
  refine (Abs.CallP.calls (lawFeedPaths_c a0 a1 a2 (len_of_rules k0) (len_of_ints k1) (len_of_steps k2)) rfl hargsR).mono fun e W' ⟨he, bel⟩ => ?_
  subst he
  exact ⟨_, rfl, _, _, _, [], _, [], hW', trodAll_mk1 (shut_bool Try.underlying4 _), (trodAll_cons_mk (Below.trod laidOut (by kernel_rfl) (of_decide_eq_true (by kernel_rfl)) h0 bel lt0) (trodAll_cons_mk (Below.trod laidOut (by kernel_rfl) (of_decide_eq_true (by kernel_rfl)) h1 bel lt1) (trodAll_cons_mk (Below.trod laidOut (by kernel_rfl) (of_decide_eq_true (by kernel_rfl)) h2 bel lt2) trodAll_mk0))), rfl, bel.frame _, fun h => by cases h⟩
theorem feedPaths_k0 : (Rows.feedPathsRow.wf (OpenSpec.ofChange Rows.feedPathsSpec)) = true := by kernel_rfl
theorem feedPaths_k3 : (Try.f20.params.all (Try.pinned.checked.prog.readableRec ·)) = true := by kernel_rfl
theorem feedPaths_k4 : (namedTie Try.pinned.checked.prog Rows.feedPathsRow.named Rows.feedPathsSpec.vars) = true := by kernel_rfl
theorem feedPaths_k5 : ((Rows.feedPathsRow.stops == [])) = true := by kernel_rfl
theorem feedPaths_k7 : ((Rows.feedPathsRow.knobs == [])) = true := by kernel_rfl
theorem feedPaths_k9 : ((Rows.feedPathsRow.inPlace == Try.pinned.checked.prog.inPlace 20)) = true := by kernel_rfl
theorem feedPaths_k10 : ((Rows.feedPathsRow.unfollowed == Try.pinned.checked.prog.unfollowed 20)) = true := by kernel_rfl
theorem feedPaths_k11 : ((Rows.feedPathsRow.recurses == Try.pinned.checked.prog.recurses 20)) = true := by kernel_rfl
theorem feedPaths_k12 : ((Rows.feedPathsRow.named == Try.pinned.checked.prog.varsNamed 20)) = true := by kernel_rfl
theorem feedPaths_k13 : ((Rows.feedPathsRow.maps == (Try.f20.params.toList ++ Rows.feedPathsSpec.plain.varTypes Try.pinned.checked.prog).any (Try.pinned.checked.prog.mapsRec ·))) = true := by kernel_rfl
theorem feedPaths_k14 : ((Rows.feedPathsRow.ifaces == (Try.f20.params.toList ++ Rows.feedPathsSpec.plain.varTypes Try.pinned.checked.prog).any (Try.pinned.checked.prog.ifacesRec ·))) = true := by kernel_rfl
theorem feedPaths_k15 : ((Rows.feedPathsRow.mapsOut == Try.pinned.checked.prog.mapsAmong Try.f20.resultTypes.toList)) = true := by kernel_rfl
theorem feedPaths_k16 : ((Rows.feedPathsRow.loops == (Try.f20.params.toList ++ Rows.feedPathsSpec.plain.varTypes Try.pinned.checked.prog).any (Try.pinned.checked.prog.loopsFrom ·))) = true := by kernel_rfl
theorem feedPaths_k17 : ((Rows.feedPathsRow.wideKeys == (Try.f20.params.toList ++ Rows.feedPathsSpec.plain.varTypes Try.pinned.checked.prog ++ Try.f20.resultTypes.toList).any (Try.pinned.checked.prog.wideKeysFrom ·))) = true := by kernel_rfl
theorem feedPaths_k18 : (Rows.feedPathsSpec.vars.all (Try.pinned.checked.prog.varReadable ·)) = true := by kernel_rfl
theorem feedPaths_k19 : (Try.f20.resultTypes.all (fun t => Try.pinned.checked.prog.readableRec t && decide (t < Try.pinned.checked.prog.types.size))) = true := by kernel_rfl
theorem feedPaths_k20 : ((Rows.feedPathsRow.ifacesOut == Try.f20.resultTypes.toList.any (Try.pinned.checked.prog.ifacesRec ·))) = true := by kernel_rfl
theorem feedPaths_k21 : ((Rows.feedPathsRow.loopsOut == Try.f20.resultTypes.toList.any (Try.pinned.checked.prog.loopsFrom ·))) = true := by kernel_rfl
theorem feedPaths_k22 : ((Rows.feedPathsRow.plainKeys == Try.pinned.checked.prog.plainKeys)) = true := by kernel_rfl
theorem feedPaths_k23 : (Rows.feedPathsRow.shortTexts.isNone) = true := by kernel_rfl
theorem feedPaths_k26 : ((Rows.feedPathsRow.lifted == Try.pinned.checked.prog.liftsFinal)) = true := by rw [liftsFinal_no]; kernel_rfl
theorem feedPaths_k27 : ((Try.pinned.checked.prog.make == some Rows.feedPathsRow.make)) = true := by rw [make_cut]; kernel_rfl
theorem feedPaths_k28 : ((Rows.feedPathsRow.kinds == (if Rows.feedPathsRow.domain.isEmpty then [] else Try.f20.params.toList.map fun t => match Try.pinned.checked.prog.underlying t with | some (.int k) => some k | _ => none))) = true := by kernel_rfl
theorem feedPaths_k29 : ((Rows.feedPathsRow.pinned == Rows.feedPathsRow.pinnedBy)) = true := by kernel_rfl
theorem feedPaths_k30 : ((Rows.feedPathsRow.veiled == (Try.f20.params.toList ++ Rows.feedPathsSpec.plain.varTypes Try.pinned.checked.prog ++ Try.f20.resultTypes.toList).any (Try.pinned.checked.prog.veiledRec ·))) = true := by kernel_rfl
theorem feedPaths_k31 : (Rows.feedPathsRow.veiledFits Try.pinned.checked.prog Try.f20.params.toList (Try.f20.params.toList ++ Rows.feedPathsSpec.plain.varTypes Try.pinned.checked.prog ++ Try.f20.resultTypes.toList)) = true := by kernel_rfl

theorem feedPaths_proved : Rows.FeedPathsSaid :=
  OpenClaim.holds_of_wide 20 Try.f20 rfl rfl rfl rfl rfl rfl rfl ⟨rfl, rfl, rfl, rfl, rfl⟩ rfl rfl rfl rfl rfl (by kernel_rfl) Try.func20
    (joined_of feedPaths_k0 fact1 fact2 feedPaths_k3 feedPaths_k4 feedPaths_k5 fact6 feedPaths_k7 fact8 feedPaths_k9 feedPaths_k10 feedPaths_k11 feedPaths_k12 feedPaths_k13 feedPaths_k14 feedPaths_k15 feedPaths_k16 feedPaths_k17 feedPaths_k18 feedPaths_k19 feedPaths_k20 feedPaths_k21 feedPaths_k22 feedPaths_k23 fact24 mayEnter_yes feedPaths_k26 feedPaths_k27 feedPaths_k28 feedPaths_k29 feedPaths_k30 feedPaths_k31)
    (of_decide_eq_true (by kernel_rfl)) (by unfold Func.isWrapper; first | (rw [if_pos (by decide +kernel)]; kernel_rfl) | (rw [if_neg (by decide +kernel)]; exact ⟨rfl, rfl⟩))
    (fun os started H enc _ => feedPaths_lifted os started H enc)
#print axioms feedPaths_proved
end Go.Proofs.Ytaooenmkofjafaa
