/- Statement OrderPaths: for every input the law answers true, and each argument reads behind the call as it read before. -/
import Derived.Test.YtaooenmkofjafaaV5
import Derived.Test.YtaooenmkofjafaaV4
import Derived.OpenShut
set_option maxRecDepth 100000
set_option linter.unusedSimpArgs false
set_option linter.unusedVariables false
namespace Go.Proofs.Ytaooenmkofjafaa
open Go.ChangeShapes Go.WideShapes Go.ChangeAt Go.RowKit
open Go.Abs (CallP Reads Rep Noblk Mu)

theorem orderPaths_lifted (os : Os) (started : os.Started) (H : Type) (enc : TypeId × Value → H) :
    ReturnsInHanded {} Try.checked os 26 .any (Rows.orderPathsSpec.pre6 enc Try.prog Try.f26 Rows.orderPathsRow.domain false) (Rows.orderPathsSpec.post enc Try.prog Try.f26 false true false false) := by
  refine returnsInHanded_of_change_sized (C := Try.checked) own started (by kernel_rfl) Try.func26
    (ChangeSpec.witness6 (enc := enc) (C := Try.checked) false ⟨#[], #[.agg #[.slice none 0 0, .slice none 0 0, .slice none 0 0]], []⟩ 8 (by kernel_rfl) (by kernel_rfl) (by kernel_rfl) (by kernel_rfl)) ?_
  intro W base args ds gs before hval0 hW hcnd hsz0 _
  have hval : ∀ (j : Nat) t v, Try.f26.params[j]? = some t → args[j]? = some v → Value.okWide Try.prog W .any base t v := hval0
  have hsz : (DataW.weightsEach Try.prog (Try.f26.params.toList ++ Rows.orderPathsSpec.plain.varTypes Try.prog) (ds ++ gs)).all (· ≤ reachBytes) = true := hsz0
  clear hval0 hsz0
  have hW' := hW
  obtain ⟨p, q, hA0, hV, rfl, hfz, hnd⟩ := hW
  have hA : DataW.TrodAll enc Try.prog W 0 (fun _ => true) true Try.f26.params.toList args.toList ds p := hA0
  clear hA0
  rw [Try.params26] at hA hval hsz
  obtain ⟨v0, vs0, d0, ds0, p0, q0, hargs, rfl, rfl, h0, r0⟩ := trodAll_cons hA
  obtain ⟨rfl, rfl, rfl⟩ := trodAll_nil r0
  obtain rfl : args = #[v0] := by cases args; simp_all
  obtain ⟨rfl, rfl⟩ := trodVars_none hV
  have w0 : ∀ n ∈ d0.weights Try.prog 25, n ≤ reachBytes := fun n hn => of_decide_eq_true (List.all_eq_true.1 hsz n (DataW.weights_mem_each (j := 0) rfl rfl n hn))
  have lt0 : ∀ x ∈ p0, x.block < W.heap.size := by obtain ⟨m, hm⟩ := h0; exact DataW.trod_lt m _ _ _ hm
  obtain ⟨a0, k0⟩ := Abs.arg_agg Try.underlying25 (reads_case enc W) (fun _ => ⟨_, rfl⟩) (hval 0 25 v0 rfl rfl) h0 w0
  have hargsR : ∀ i, i < [caseV a0].length → Rep W Noblk Mu.none ([caseV a0].getD i .junk) ((#[v0] : Array Value).getD i undef) := by
    intro i hi
    match i, hi with
    | 0, _ => exact k0
  refine (Abs.CallP.calls (lawOrderPaths_c a0 (len_of_case k0)) rfl hargsR).mono fun e W' ⟨he, bel⟩ => ?_
  subst he
  exact ⟨_, rfl, _, _, _, [], _, [], hW', trodAll_mk1 (shut_bool Try.underlying4 _), (trodAll_cons_mk (Below.trod laidOut (by kernel_rfl) (of_decide_eq_true (by kernel_rfl)) h0 bel lt0) trodAll_mk0), rfl, bel.frame _, fun h => by cases h⟩
theorem orderPaths_k0 : (Rows.orderPathsRow.wf (OpenSpec.ofChange Rows.orderPathsSpec)) = true := by kernel_rfl
theorem orderPaths_k3 : (Try.f26.params.all (Try.pinned.checked.prog.readableRec ·)) = true := by kernel_rfl
theorem orderPaths_k4 : (namedTie Try.pinned.checked.prog Rows.orderPathsRow.named Rows.orderPathsSpec.vars) = true := by kernel_rfl
theorem orderPaths_k5 : ((Rows.orderPathsRow.stops == [])) = true := by kernel_rfl
theorem orderPaths_k7 : ((Rows.orderPathsRow.knobs == [])) = true := by kernel_rfl
theorem orderPaths_k9 : ((Rows.orderPathsRow.inPlace == Try.pinned.checked.prog.inPlace 26)) = true := by kernel_rfl
theorem orderPaths_k10 : ((Rows.orderPathsRow.unfollowed == Try.pinned.checked.prog.unfollowed 26)) = true := by kernel_rfl
theorem orderPaths_k11 : ((Rows.orderPathsRow.recurses == Try.pinned.checked.prog.recurses 26)) = true := by kernel_rfl
theorem orderPaths_k12 : ((Rows.orderPathsRow.named == Try.pinned.checked.prog.varsNamed 26)) = true := by kernel_rfl
theorem orderPaths_k13 : ((Rows.orderPathsRow.maps == (Try.f26.params.toList ++ Rows.orderPathsSpec.plain.varTypes Try.pinned.checked.prog).any (Try.pinned.checked.prog.mapsRec ·))) = true := by kernel_rfl
theorem orderPaths_k14 : ((Rows.orderPathsRow.ifaces == (Try.f26.params.toList ++ Rows.orderPathsSpec.plain.varTypes Try.pinned.checked.prog).any (Try.pinned.checked.prog.ifacesRec ·))) = true := by kernel_rfl
theorem orderPaths_k15 : ((Rows.orderPathsRow.mapsOut == Try.pinned.checked.prog.mapsAmong Try.f26.resultTypes.toList)) = true := by kernel_rfl
theorem orderPaths_k16 : ((Rows.orderPathsRow.loops == (Try.f26.params.toList ++ Rows.orderPathsSpec.plain.varTypes Try.pinned.checked.prog).any (Try.pinned.checked.prog.loopsFrom ·))) = true := by kernel_rfl
theorem orderPaths_k17 : ((Rows.orderPathsRow.wideKeys == (Try.f26.params.toList ++ Rows.orderPathsSpec.plain.varTypes Try.pinned.checked.prog ++ Try.f26.resultTypes.toList).any (Try.pinned.checked.prog.wideKeysFrom ·))) = true := by kernel_rfl
theorem orderPaths_k18 : (Rows.orderPathsSpec.vars.all (Try.pinned.checked.prog.varReadable ·)) = true := by kernel_rfl
theorem orderPaths_k19 : (Try.f26.resultTypes.all (fun t => Try.pinned.checked.prog.readableRec t && decide (t < Try.pinned.checked.prog.types.size))) = true := by kernel_rfl
theorem orderPaths_k20 : ((Rows.orderPathsRow.ifacesOut == Try.f26.resultTypes.toList.any (Try.pinned.checked.prog.ifacesRec ·))) = true := by kernel_rfl
theorem orderPaths_k21 : ((Rows.orderPathsRow.loopsOut == Try.f26.resultTypes.toList.any (Try.pinned.checked.prog.loopsFrom ·))) = true := by kernel_rfl
theorem orderPaths_k22 : ((Rows.orderPathsRow.plainKeys == Try.pinned.checked.prog.plainKeys)) = true := by kernel_rfl
theorem orderPaths_k23 : (Rows.orderPathsRow.shortTexts.isNone) = true := by kernel_rfl
theorem orderPaths_k26 : ((Rows.orderPathsRow.lifted == Try.pinned.checked.prog.liftsFinal)) = true := by rw [liftsFinal_no]; kernel_rfl
theorem orderPaths_k27 : ((Try.pinned.checked.prog.make == some Rows.orderPathsRow.make)) = true := by rw [make_cut]; kernel_rfl
theorem orderPaths_k28 : ((Rows.orderPathsRow.kinds == (if Rows.orderPathsRow.domain.isEmpty then [] else Try.f26.params.toList.map fun t => match Try.pinned.checked.prog.underlying t with | some (.int k) => some k | _ => none))) = true := by kernel_rfl
theorem orderPaths_k29 : ((Rows.orderPathsRow.pinned == Rows.orderPathsRow.pinnedBy)) = true := by kernel_rfl
theorem orderPaths_k30 : ((Rows.orderPathsRow.veiled == (Try.f26.params.toList ++ Rows.orderPathsSpec.plain.varTypes Try.pinned.checked.prog ++ Try.f26.resultTypes.toList).any (Try.pinned.checked.prog.veiledRec ·))) = true := by kernel_rfl
theorem orderPaths_k31 : (Rows.orderPathsRow.veiledFits Try.pinned.checked.prog Try.f26.params.toList (Try.f26.params.toList ++ Rows.orderPathsSpec.plain.varTypes Try.pinned.checked.prog ++ Try.f26.resultTypes.toList)) = true := by kernel_rfl

theorem orderPaths_proved : Rows.OrderPathsSaid :=
  OpenClaim.holds_of_wide 26 Try.f26 rfl rfl rfl rfl rfl rfl rfl ⟨rfl, rfl, rfl, rfl, rfl⟩ rfl rfl rfl rfl rfl (by kernel_rfl) Try.func26
    (joined_of orderPaths_k0 fact1 fact2 orderPaths_k3 orderPaths_k4 orderPaths_k5 fact6 orderPaths_k7 fact8 orderPaths_k9 orderPaths_k10 orderPaths_k11 orderPaths_k12 orderPaths_k13 orderPaths_k14 orderPaths_k15 orderPaths_k16 orderPaths_k17 orderPaths_k18 orderPaths_k19 orderPaths_k20 orderPaths_k21 orderPaths_k22 orderPaths_k23 fact24 mayEnter_yes orderPaths_k26 orderPaths_k27 orderPaths_k28 orderPaths_k29 orderPaths_k30 orderPaths_k31)
    (of_decide_eq_true (by kernel_rfl)) (by unfold Func.isWrapper; first | (rw [if_pos (by decide +kernel)]; kernel_rfl) | (rw [if_neg (by decide +kernel)]; exact ⟨rfl, rfl⟩))
    (fun os started H enc _ => orderPaths_lifted os started H enc)
#print axioms orderPaths_proved
end Go.Proofs.Ytaooenmkofjafaa
