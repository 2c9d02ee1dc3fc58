/- Statement FeedWeights: for every input the law answers true, and each argument reads behind the call as it read before. -/
import Derived.Test.YtaooenmkofjafaaV7
import Derived.Test.YtaooenmkofjafaaV5
import Derived.OpenShut
set_option maxRecDepth 100000
set_option linter.unusedSimpArgs false
set_option linter.unusedVariables false
namespace Go.Proofs.Ytaooenmkofjafaa
open Go.ChangeShapes Go.WideShapes Go.ChangeAt Go.RowKit
open Go.Abs (CallP Reads Rep Noblk Mu)

theorem feedWeights_lifted (os : Os) (started : os.Started) (H : Type) (enc : TypeId × Value → H) :
    ReturnsInHanded {} Try.checked os 19 .any (Rows.feedWeightsSpec.pre6 enc Try.prog Try.f19 Rows.feedWeightsRow.domain false) (Rows.feedWeightsSpec.post enc Try.prog Try.f19 false true false false) := by
  refine returnsInHanded_of_change_sized (C := Try.checked) own started (by kernel_rfl) Try.func19
    (ChangeSpec.witness6 (enc := enc) (C := Try.checked) false ⟨#[], #[.slice none 0 0], []⟩ 8 (by kernel_rfl) (by kernel_rfl) (by kernel_rfl) (by kernel_rfl)) ?_
  intro W base args ds gs before hval0 hW hcnd hsz0 _
  have hval : ∀ (j : Nat) t v, Try.f19.params[j]? = some t → args[j]? = some v → Value.okWide Try.prog W .any base t v := hval0
  have hsz : (DataW.weightsEach Try.prog (Try.f19.params.toList ++ Rows.feedWeightsSpec.plain.varTypes Try.prog) (ds ++ gs)).all (· ≤ reachBytes) = true := hsz0
  clear hval0 hsz0
  have hW' := hW
  obtain ⟨p, q, hA0, hV, rfl, hfz, hnd⟩ := hW
  have hA : DataW.TrodAll enc Try.prog W 0 (fun _ => true) true Try.f19.params.toList args.toList ds p := hA0
  clear hA0
  rw [Try.params19] at hA hval hsz
  obtain ⟨v0, vs0, d0, ds0, p0, q0, hargs, rfl, rfl, h0, r0⟩ := trodAll_cons hA
  obtain ⟨rfl, rfl, rfl⟩ := trodAll_nil r0
  obtain rfl : args = #[v0] := by cases args; simp_all
  obtain ⟨rfl, rfl⟩ := trodVars_none hV
  have w0 : ∀ n ∈ d0.weights Try.prog 22, n ≤ reachBytes := fun n hn => of_decide_eq_true (List.all_eq_true.1 hsz n (DataW.weights_mem_each (j := 0) rfl rfl n hn))
  have lt0 : ∀ x ∈ p0, x.block < W.heap.size := by obtain ⟨m, hm⟩ := h0; exact DataW.trod_lt m _ _ _ hm
  have c0 : v0.cells = #[v0] := by obtain ⟨a, len, cap, rfl⟩ := okWide_slice Try.underlying22 (hval 0 22 v0 rfl rfl); rfl
  obtain ⟨a0, k0⟩ := Abs.arg_one (reads_rules enc W) (fun _ => rfl) c0 h0 w0
  have hargsR : ∀ i, i < [rulesV a0].length → Rep W Noblk Mu.none ([rulesV a0].getD i .junk) ((#[v0] : Array Value).getD i undef) := by
    intro i hi
    match i, hi with
    | 0, _ => exact k0
  refine (Abs.CallP.calls (lawFeedWeights_c a0 (len_of_rules k0)) rfl hargsR).mono fun e W' ⟨he, bel⟩ => ?_
  subst he
  exact ⟨_, rfl, _, _, _, [], _, [], hW', trodAll_mk1 (shut_bool Try.underlying4 _), (trodAll_cons_mk (Below.trod laidOut (by kernel_rfl) (of_decide_eq_true (by kernel_rfl)) h0 bel lt0) trodAll_mk0), rfl, bel.frame _, fun h => by cases h⟩
theorem feedWeights_k0 : (Rows.feedWeightsRow.wf (OpenSpec.ofChange Rows.feedWeightsSpec)) = true := by kernel_rfl
theorem feedWeights_k3 : (Try.f19.params.all (Try.pinned.checked.prog.readableRec ·)) = true := by kernel_rfl
theorem feedWeights_k4 : (namedTie Try.pinned.checked.prog Rows.feedWeightsRow.named Rows.feedWeightsSpec.vars) = true := by kernel_rfl
theorem feedWeights_k5 : ((Rows.feedWeightsRow.stops == [])) = true := by kernel_rfl
theorem feedWeights_k7 : ((Rows.feedWeightsRow.knobs == [])) = true := by kernel_rfl
theorem feedWeights_k9 : ((Rows.feedWeightsRow.inPlace == Try.pinned.checked.prog.inPlace 19)) = true := by kernel_rfl
theorem feedWeights_k10 : ((Rows.feedWeightsRow.unfollowed == Try.pinned.checked.prog.unfollowed 19)) = true := by kernel_rfl
theorem feedWeights_k11 : ((Rows.feedWeightsRow.recurses == Try.pinned.checked.prog.recurses 19)) = true := by kernel_rfl
theorem feedWeights_k12 : ((Rows.feedWeightsRow.named == Try.pinned.checked.prog.varsNamed 19)) = true := by kernel_rfl
theorem feedWeights_k13 : ((Rows.feedWeightsRow.maps == (Try.f19.params.toList ++ Rows.feedWeightsSpec.plain.varTypes Try.pinned.checked.prog).any (Try.pinned.checked.prog.mapsRec ·))) = true := by kernel_rfl
theorem feedWeights_k14 : ((Rows.feedWeightsRow.ifaces == (Try.f19.params.toList ++ Rows.feedWeightsSpec.plain.varTypes Try.pinned.checked.prog).any (Try.pinned.checked.prog.ifacesRec ·))) = true := by kernel_rfl
theorem feedWeights_k15 : ((Rows.feedWeightsRow.mapsOut == Try.pinned.checked.prog.mapsAmong Try.f19.resultTypes.toList)) = true := by kernel_rfl
theorem feedWeights_k16 : ((Rows.feedWeightsRow.loops == (Try.f19.params.toList ++ Rows.feedWeightsSpec.plain.varTypes Try.pinned.checked.prog).any (Try.pinned.checked.prog.loopsFrom ·))) = true := by kernel_rfl
theorem feedWeights_k17 : ((Rows.feedWeightsRow.wideKeys == (Try.f19.params.toList ++ Rows.feedWeightsSpec.plain.varTypes Try.pinned.checked.prog ++ Try.f19.resultTypes.toList).any (Try.pinned.checked.prog.wideKeysFrom ·))) = true := by kernel_rfl
theorem feedWeights_k18 : (Rows.feedWeightsSpec.vars.all (Try.pinned.checked.prog.varReadable ·)) = true := by kernel_rfl
theorem feedWeights_k19 : (Try.f19.resultTypes.all (fun t => Try.pinned.checked.prog.readableRec t && decide (t < Try.pinned.checked.prog.types.size))) = true := by kernel_rfl
theorem feedWeights_k20 : ((Rows.feedWeightsRow.ifacesOut == Try.f19.resultTypes.toList.any (Try.pinned.checked.prog.ifacesRec ·))) = true := by kernel_rfl
theorem feedWeights_k21 : ((Rows.feedWeightsRow.loopsOut == Try.f19.resultTypes.toList.any (Try.pinned.checked.prog.loopsFrom ·))) = true := by kernel_rfl
theorem feedWeights_k22 : ((Rows.feedWeightsRow.plainKeys == Try.pinned.checked.prog.plainKeys)) = true := by kernel_rfl
theorem feedWeights_k23 : (Rows.feedWeightsRow.shortTexts.isNone) = true := by kernel_rfl
theorem feedWeights_k26 : ((Rows.feedWeightsRow.lifted == Try.pinned.checked.prog.liftsFinal)) = true := by rw [liftsFinal_no]; kernel_rfl
theorem feedWeights_k27 : ((Try.pinned.checked.prog.make == some Rows.feedWeightsRow.make)) = true := by rw [make_cut]; kernel_rfl
theorem feedWeights_k28 : ((Rows.feedWeightsRow.kinds == (if Rows.feedWeightsRow.domain.isEmpty then [] else Try.f19.params.toList.map fun t => match Try.pinned.checked.prog.underlying t with | some (.int k) => some k | _ => none))) = true := by kernel_rfl
theorem feedWeights_k29 : ((Rows.feedWeightsRow.pinned == Rows.feedWeightsRow.pinnedBy)) = true := by kernel_rfl
theorem feedWeights_k30 : ((Rows.feedWeightsRow.veiled == (Try.f19.params.toList ++ Rows.feedWeightsSpec.plain.varTypes Try.pinned.checked.prog ++ Try.f19.resultTypes.toList).any (Try.pinned.checked.prog.veiledRec ·))) = true := by kernel_rfl
theorem feedWeights_k31 : (Rows.feedWeightsRow.veiledFits Try.pinned.checked.prog Try.f19.params.toList (Try.f19.params.toList ++ Rows.feedWeightsSpec.plain.varTypes Try.pinned.checked.prog ++ Try.f19.resultTypes.toList)) = true := by kernel_rfl

theorem feedWeights_proved : Rows.FeedWeightsSaid :=
  OpenClaim.holds_of_wide 19 Try.f19 rfl rfl rfl rfl rfl rfl rfl ⟨rfl, rfl, rfl, rfl, rfl⟩ rfl rfl rfl rfl rfl (by kernel_rfl) Try.func19
    (joined_of feedWeights_k0 fact1 fact2 feedWeights_k3 feedWeights_k4 feedWeights_k5 fact6 feedWeights_k7 fact8 feedWeights_k9 feedWeights_k10 feedWeights_k11 feedWeights_k12 feedWeights_k13 feedWeights_k14 feedWeights_k15 feedWeights_k16 feedWeights_k17 feedWeights_k18 feedWeights_k19 feedWeights_k20 feedWeights_k21 feedWeights_k22 feedWeights_k23 fact24 mayEnter_yes feedWeights_k26 feedWeights_k27 feedWeights_k28 feedWeights_k29 feedWeights_k30 feedWeights_k31)
    (of_decide_eq_true (by kernel_rfl)) (by unfold Func.isWrapper; first | (rw [if_pos (by decide +kernel)]; kernel_rfl) | (rw [if_neg (by decide +kernel)]; exact ⟨rfl, rfl⟩))
    (fun os started H enc _ => feedWeights_lifted os started H enc)
#print axioms feedWeights_proved
end Go.Proofs.Ytaooenmkofjafaa
