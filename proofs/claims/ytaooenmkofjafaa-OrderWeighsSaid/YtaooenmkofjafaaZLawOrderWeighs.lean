/- Statement OrderWeighs: for every input the law answers true, and each argument reads behind the call as it read before. -/
import Derived.Test.YtaooenmkofjafaaV6
import Derived.Test.YtaooenmkofjafaaV5
import Derived.OpenShut
set_option maxRecDepth 100000
set_option linter.unusedSimpArgs false
set_option linter.unusedVariables false
namespace Go.Proofs.Ytaooenmkofjafaa
open Go.ChangeShapes Go.WideShapes Go.ChangeAt Go.RowKit
open Go.Abs (CallP Reads Rep Noblk Mu)

theorem orderWeighs_lifted (os : Os) (started : os.Started) (H : Type) (enc : TypeId × Value → H) :
    ReturnsInHanded {} Try.checked os 12 .any (Rows.orderWeighsSpec.pre6 enc Try.prog Try.f12 Rows.orderWeighsRow.domain false) (Rows.orderWeighsSpec.post enc Try.prog Try.f12 false true false false) := by
  refine returnsInHanded_of_change_sized (C := Try.checked) own started (by kernel_rfl) Try.func12
    (ChangeSpec.witness6 (enc := enc) (C := Try.checked) false ⟨#[], #[.agg #[.slice none 0 0, .slice none 0 0, .slice none 0 0]], []⟩ 8 (by kernel_rfl) (by kernel_rfl) (by kernel_rfl) (by kernel_rfl)) ?_
  intro W base args ds gs before hval0 hW hcnd hsz0 _
  have hval : ∀ (j : Nat) t v, Try.f12.params[j]? = some t → args[j]? = some v → Value.okWide Try.prog W .any base t v := hval0
  have hsz : (DataW.weightsEach Try.prog (Try.f12.params.toList ++ Rows.orderWeighsSpec.plain.varTypes Try.prog) (ds ++ gs)).all (· ≤ reachBytes) = true := hsz0
  clear hval0 hsz0
  have hW' := hW
  obtain ⟨p, q, hA0, hV, rfl, hfz, hnd⟩ := hW
  have hA : DataW.TrodAll enc Try.prog W 0 (fun _ => true) true Try.f12.params.toList args.toList ds p := hA0
  clear hA0
  rw [Try.params12] at hA hval hsz
  obtain ⟨v0, vs0, d0, ds0, p0, q0, hargs, rfl, rfl, h0, r0⟩ := trodAll_cons hA
  obtain ⟨rfl, rfl, rfl⟩ := trodAll_nil r0
  obtain rfl : args = #[v0] := by cases args; simp_all
  obtain ⟨rfl, rfl⟩ := trodVars_none hV
  have w0 : ∀ n ∈ d0.weights Try.prog 25, n ≤ reachBytes := fun n hn => of_decide_eq_true (List.all_eq_true.1 hsz n (DataW.weights_mem_each (j := 0) rfl rfl n hn))
  have lt0 : ∀ x ∈ p0, x.block < W.heap.size := by obtain ⟨m, hm⟩ := h0; exact DataW.trod_lt m _ _ _ hm
  obtain ⟨a0, k0⟩ := Abs.arg_agg Try.underlying25 (reads_case enc W) (fun _ => ⟨_, rfl⟩) (hval 0 25 v0 rfl rfl) h0 w0
  have hargsR : ∀ i, i < [caseV a0].length → Rep W Noblk Mu.none ([caseV a0].getD i .junk) ((#[v0] : Array Value).getD i undef) := by
    intro i hi
    match i, hi with
    | 0, _ => exact k0
  refine (Abs.CallP.calls (lawOrderWeighs_c a0 (len_of_case k0)) rfl hargsR).mono fun e W' ⟨he, bel⟩ => ?_
  subst he
  exact ⟨_, rfl, _, _, _, [], _, [], hW', trodAll_mk1 (shut_bool Try.underlying4 _), (trodAll_cons_mk (Below.trod laidOut (by kernel_rfl) (of_decide_eq_true (by kernel_rfl)) h0 bel lt0) trodAll_mk0), rfl, bel.frame _, fun h => by cases h⟩
theorem orderWeighs_k0 : (Rows.orderWeighsRow.wf (OpenSpec.ofChange Rows.orderWeighsSpec)) = true := by kernel_rfl
theorem orderWeighs_k3 : (Try.f12.params.all (Try.pinned.checked.prog.readableRec ·)) = true := by kernel_rfl
theorem orderWeighs_k4 : (namedTie Try.pinned.checked.prog Rows.orderWeighsRow.named Rows.orderWeighsSpec.vars) = true := by kernel_rfl
theorem orderWeighs_k5 : ((Rows.orderWeighsRow.stops == [])) = true := by kernel_rfl
theorem orderWeighs_k7 : ((Rows.orderWeighsRow.knobs == [])) = true := by kernel_rfl
theorem orderWeighs_k9 : ((Rows.orderWeighsRow.inPlace == Try.pinned.checked.prog.inPlace 12)) = true := by kernel_rfl
theorem orderWeighs_k10 : ((Rows.orderWeighsRow.unfollowed == Try.pinned.checked.prog.unfollowed 12)) = true := by kernel_rfl
theorem orderWeighs_k11 : ((Rows.orderWeighsRow.recurses == Try.pinned.checked.prog.recurses 12)) = true := by kernel_rfl
theorem orderWeighs_k12 : ((Rows.orderWeighsRow.named == Try.pinned.checked.prog.varsNamed 12)) = true := by kernel_rfl
theorem orderWeighs_k13 : ((Rows.orderWeighsRow.maps == (Try.f12.params.toList ++ Rows.orderWeighsSpec.plain.varTypes Try.pinned.checked.prog).any (Try.pinned.checked.prog.mapsRec ·))) = true := by kernel_rfl
theorem orderWeighs_k14 : ((Rows.orderWeighsRow.ifaces == (Try.f12.params.toList ++ Rows.orderWeighsSpec.plain.varTypes Try.pinned.checked.prog).any (Try.pinned.checked.prog.ifacesRec ·))) = true := by kernel_rfl
theorem orderWeighs_k15 : ((Rows.orderWeighsRow.mapsOut == Try.pinned.checked.prog.mapsAmong Try.f12.resultTypes.toList)) = true := by kernel_rfl
theorem orderWeighs_k16 : ((Rows.orderWeighsRow.loops == (Try.f12.params.toList ++ Rows.orderWeighsSpec.plain.varTypes Try.pinned.checked.prog).any (Try.pinned.checked.prog.loopsFrom ·))) = true := by kernel_rfl
theorem orderWeighs_k17 : ((Rows.orderWeighsRow.wideKeys == (Try.f12.params.toList ++ Rows.orderWeighsSpec.plain.varTypes Try.pinned.checked.prog ++ Try.f12.resultTypes.toList).any (Try.pinned.checked.prog.wideKeysFrom ·))) = true := by kernel_rfl
theorem orderWeighs_k18 : (Rows.orderWeighsSpec.vars.all (Try.pinned.checked.prog.varReadable ·)) = true := by kernel_rfl
theorem orderWeighs_k19 : (Try.f12.resultTypes.all (fun t => Try.pinned.checked.prog.readableRec t && decide (t < Try.pinned.checked.prog.types.size))) = true := by kernel_rfl
theorem orderWeighs_k20 : ((Rows.orderWeighsRow.ifacesOut == Try.f12.resultTypes.toList.any (Try.pinned.checked.prog.ifacesRec ·))) = true := by kernel_rfl
theorem orderWeighs_k21 : ((Rows.orderWeighsRow.loopsOut == Try.f12.resultTypes.toList.any (Try.pinned.checked.prog.loopsFrom ·))) = true := by kernel_rfl
theorem orderWeighs_k22 : ((Rows.orderWeighsRow.plainKeys == Try.pinned.checked.prog.plainKeys)) = true := by kernel_rfl
theorem orderWeighs_k23 : (Rows.orderWeighsRow.shortTexts.isNone) = true := by kernel_rfl
theorem orderWeighs_k26 : ((Rows.orderWeighsRow.lifted == Try.pinned.checked.prog.liftsFinal)) = true := by rw [liftsFinal_no]; kernel_rfl
theorem orderWeighs_k27 : ((Try.pinned.checked.prog.make == some Rows.orderWeighsRow.make)) = true := by rw [make_cut]; kernel_rfl
theorem orderWeighs_k28 : ((Rows.orderWeighsRow.kinds == (if Rows.orderWeighsRow.domain.isEmpty then [] else Try.f12.params.toList.map fun t => match Try.pinned.checked.prog.underlying t with | some (.int k) => some k | _ => none))) = true := by kernel_rfl
theorem orderWeighs_k29 : ((Rows.orderWeighsRow.pinned == Rows.orderWeighsRow.pinnedBy)) = true := by kernel_rfl
theorem orderWeighs_k30 : ((Rows.orderWeighsRow.veiled == (Try.f12.params.toList ++ Rows.orderWeighsSpec.plain.varTypes Try.pinned.checked.prog ++ Try.f12.resultTypes.toList).any (Try.pinned.checked.prog.veiledRec ·))) = true := by kernel_rfl
theorem orderWeighs_k31 : (Rows.orderWeighsRow.veiledFits Try.pinned.checked.prog Try.f12.params.toList (Try.f12.params.toList ++ Rows.orderWeighsSpec.plain.varTypes Try.pinned.checked.prog ++ Try.f12.resultTypes.toList)) = true := by kernel_rfl

theorem orderWeighs_proved : Rows.OrderWeighsSaid :=
  OpenClaim.holds_of_wide 12 Try.f12 rfl rfl rfl rfl rfl rfl rfl ⟨rfl, rfl, rfl, rfl, rfl⟩ rfl rfl rfl rfl rfl (by kernel_rfl) Try.func12
    (joined_of orderWeighs_k0 fact1 fact2 orderWeighs_k3 orderWeighs_k4 orderWeighs_k5 fact6 orderWeighs_k7 fact8 orderWeighs_k9 orderWeighs_k10 orderWeighs_k11 orderWeighs_k12 orderWeighs_k13 orderWeighs_k14 orderWeighs_k15 orderWeighs_k16 orderWeighs_k17 orderWeighs_k18 orderWeighs_k19 orderWeighs_k20 orderWeighs_k21 orderWeighs_k22 orderWeighs_k23 fact24 mayEnter_yes orderWeighs_k26 orderWeighs_k27 orderWeighs_k28 orderWeighs_k29 orderWeighs_k30 orderWeighs_k31)
    (of_decide_eq_true (by kernel_rfl)) (by unfold Func.isWrapper; first | (rw [if_pos (by decide +kernel)]; kernel_rfl) | (rw [if_neg (by decide +kernel)]; exact ⟨rfl, rfl⟩))
    (fun os started H enc _ => orderWeighs_lifted os started H enc)
#print axioms orderWeighs_proved
end Go.Proofs.Ytaooenmkofjafaa
