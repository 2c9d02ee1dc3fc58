/- Statement OrderDerives: for every input the law answers true, and each argument reads behind the call as it read before. -/
import Derived.Test.YtaooenmkofjafaaV5
import Derived.Test.YtaooenmkofjafaaV6
import Derived.OpenShut
set_option maxRecDepth 100000
set_option linter.unusedSimpArgs false
set_option linter.unusedVariables false
namespace Go.Proofs.Ytaooenmkofjafaa
open Go.ChangeShapes Go.WideShapes Go.ChangeAt Go.RowKit
open Go.Abs (CallP Reads Rep Noblk Mu)

theorem orderDerives_lifted (os : Os) (started : os.Started) (H : Type) (enc : TypeId × Value → H) :
    ReturnsInHanded {} Try.checked os 3 .any (Rows.orderDerivesSpec.pre6 enc Try.prog Try.f3 Rows.orderDerivesRow.domain false) (Rows.orderDerivesSpec.post enc Try.prog Try.f3 false true false false) := by
  refine returnsInHanded_of_change_sized (C := Try.checked) own started (by kernel_rfl) Try.func3
    (ChangeSpec.witness6 (enc := enc) (C := Try.checked) false ⟨#[], #[.agg #[.slice none 0 0, .slice none 0 0, .slice none 0 0]], []⟩ 8 (by kernel_rfl) (by kernel_rfl) (by kernel_rfl) (by kernel_rfl)) ?_
  intro W base args ds gs before hval0 hW hcnd hsz0 _
  have hval : ∀ (j : Nat) t v, Try.f3.params[j]? = some t → args[j]? = some v → Value.okWide Try.prog W .any base t v := hval0
  have hsz : (DataW.weightsEach Try.prog (Try.f3.params.toList ++ Rows.orderDerivesSpec.plain.varTypes Try.prog) (ds ++ gs)).all (· ≤ reachBytes) = true := hsz0
  clear hval0 hsz0
  have hW' := hW
  obtain ⟨p, q, hA0, hV, rfl, hfz, hnd⟩ := hW
  have hA : DataW.TrodAll enc Try.prog W 0 (fun _ => true) true Try.f3.params.toList args.toList ds p := hA0
  clear hA0
  rw [Try.params3] at hA hval hsz
  obtain ⟨v0, vs0, d0, ds0, p0, q0, hargs, rfl, rfl, h0, r0⟩ := trodAll_cons hA
  obtain ⟨rfl, rfl, rfl⟩ := trodAll_nil r0
  obtain rfl : args = #[v0] := by cases args; simp_all
  obtain ⟨rfl, rfl⟩ := trodVars_none hV
  have w0 : ∀ n ∈ d0.weights Try.prog 25, n ≤ reachBytes := fun n hn => of_decide_eq_true (List.all_eq_true.1 hsz n (DataW.weights_mem_each (j := 0) rfl rfl n hn))
  have lt0 : ∀ x ∈ p0, x.block < W.heap.size := by obtain ⟨m, hm⟩ := h0; exact DataW.trod_lt m _ _ _ hm
  obtain ⟨a0, k0⟩ := Abs.arg_agg Try.underlying25 (reads_case enc W) (fun _ => ⟨_, rfl⟩) (hval 0 25 v0 rfl rfl) h0 w0
  have hargsR : ∀ i, i < [caseV a0].length → Rep W Noblk Mu.none ([caseV a0].getD i .junk) ((#[v0] : Array Value).getD i undef) := by
    intro i hi
    match i, hi with
    | 0, _ => exact k0
  refine (Abs.CallP.calls (lawOrderDerives_c a0 (len_of_case k0)) rfl hargsR).mono fun e W' ⟨he, bel⟩ => ?_
  subst he
  exact ⟨_, rfl, _, _, _, [], _, [], hW', trodAll_mk1 (shut_bool Try.underlying4 _), (trodAll_cons_mk (Below.trod laidOut (by kernel_rfl) (of_decide_eq_true (by kernel_rfl)) h0 bel lt0) trodAll_mk0), rfl, bel.frame _, fun h => by cases h⟩
theorem orderDerives_k0 : (Rows.orderDerivesRow.wf (OpenSpec.ofChange Rows.orderDerivesSpec)) = true := by kernel_rfl
theorem orderDerives_k3 : (Try.f3.params.all (Try.pinned.checked.prog.readableRec ·)) = true := by kernel_rfl
theorem orderDerives_k4 : (namedTie Try.pinned.checked.prog Rows.orderDerivesRow.named Rows.orderDerivesSpec.vars) = true := by kernel_rfl
theorem orderDerives_k5 : ((Rows.orderDerivesRow.stops == [])) = true := by kernel_rfl
theorem orderDerives_k7 : ((Rows.orderDerivesRow.knobs == [])) = true := by kernel_rfl
theorem orderDerives_k9 : ((Rows.orderDerivesRow.inPlace == Try.pinned.checked.prog.inPlace 3)) = true := by kernel_rfl
theorem orderDerives_k10 : ((Rows.orderDerivesRow.unfollowed == Try.pinned.checked.prog.unfollowed 3)) = true := by kernel_rfl
theorem orderDerives_k11 : ((Rows.orderDerivesRow.recurses == Try.pinned.checked.prog.recurses 3)) = true := by kernel_rfl
theorem orderDerives_k12 : ((Rows.orderDerivesRow.named == Try.pinned.checked.prog.varsNamed 3)) = true := by kernel_rfl
theorem orderDerives_k13 : ((Rows.orderDerivesRow.maps == (Try.f3.params.toList ++ Rows.orderDerivesSpec.plain.varTypes Try.pinned.checked.prog).any (Try.pinned.checked.prog.mapsRec ·))) = true := by kernel_rfl
theorem orderDerives_k14 : ((Rows.orderDerivesRow.ifaces == (Try.f3.params.toList ++ Rows.orderDerivesSpec.plain.varTypes Try.pinned.checked.prog).any (Try.pinned.checked.prog.ifacesRec ·))) = true := by kernel_rfl
theorem orderDerives_k15 : ((Rows.orderDerivesRow.mapsOut == Try.pinned.checked.prog.mapsAmong Try.f3.resultTypes.toList)) = true := by kernel_rfl
theorem orderDerives_k16 : ((Rows.orderDerivesRow.loops == (Try.f3.params.toList ++ Rows.orderDerivesSpec.plain.varTypes Try.pinned.checked.prog).any (Try.pinned.checked.prog.loopsFrom ·))) = true := by kernel_rfl
theorem orderDerives_k17 : ((Rows.orderDerivesRow.wideKeys == (Try.f3.params.toList ++ Rows.orderDerivesSpec.plain.varTypes Try.pinned.checked.prog ++ Try.f3.resultTypes.toList).any (Try.pinned.checked.prog.wideKeysFrom ·))) = true := by kernel_rfl
theorem orderDerives_k18 : (Rows.orderDerivesSpec.vars.all (Try.pinned.checked.prog.varReadable ·)) = true := by kernel_rfl
theorem orderDerives_k19 : (Try.f3.resultTypes.all (fun t => Try.pinned.checked.prog.readableRec t && decide (t < Try.pinned.checked.prog.types.size))) = true := by kernel_rfl
theorem orderDerives_k20 : ((Rows.orderDerivesRow.ifacesOut == Try.f3.resultTypes.toList.any (Try.pinned.checked.prog.ifacesRec ·))) = true := by kernel_rfl
theorem orderDerives_k21 : ((Rows.orderDerivesRow.loopsOut == Try.f3.resultTypes.toList.any (Try.pinned.checked.prog.loopsFrom ·))) = true := by kernel_rfl
theorem orderDerives_k22 : ((Rows.orderDerivesRow.plainKeys == Try.pinned.checked.prog.plainKeys)) = true := by kernel_rfl
theorem orderDerives_k23 : (Rows.orderDerivesRow.shortTexts.isNone) = true := by kernel_rfl
theorem orderDerives_k26 : ((Rows.orderDerivesRow.lifted == Try.pinned.checked.prog.liftsFinal)) = true := by rw [liftsFinal_no]; kernel_rfl
theorem orderDerives_k27 : ((Try.pinned.checked.prog.make == some Rows.orderDerivesRow.make)) = true := by rw [make_cut]; kernel_rfl
theorem orderDerives_k28 : ((Rows.orderDerivesRow.kinds == (if Rows.orderDerivesRow.domain.isEmpty then [] else Try.f3.params.toList.map fun t => match Try.pinned.checked.prog.underlying t with | some (.int k) => some k | _ => none))) = true := by kernel_rfl
theorem orderDerives_k29 : ((Rows.orderDerivesRow.pinned == Rows.orderDerivesRow.pinnedBy)) = true := by kernel_rfl
theorem orderDerives_k30 : ((Rows.orderDerivesRow.veiled == (Try.f3.params.toList ++ Rows.orderDerivesSpec.plain.varTypes Try.pinned.checked.prog ++ Try.f3.resultTypes.toList).any (Try.pinned.checked.prog.veiledRec ·))) = true := by kernel_rfl
theorem orderDerives_k31 : (Rows.orderDerivesRow.veiledFits Try.pinned.checked.prog Try.f3.params.toList (Try.f3.params.toList ++ Rows.orderDerivesSpec.plain.varTypes Try.pinned.checked.prog ++ Try.f3.resultTypes.toList)) = true := by kernel_rfl

theorem orderDerives_proved : Rows.OrderDerivesSaid :=
  OpenClaim.holds_of_wide 3 Try.f3 rfl rfl rfl rfl rfl rfl rfl ⟨rfl, rfl, rfl, rfl, rfl⟩ rfl rfl rfl rfl rfl (by kernel_rfl) Try.func3
    (joined_of orderDerives_k0 fact1 fact2 orderDerives_k3 orderDerives_k4 orderDerives_k5 fact6 orderDerives_k7 fact8 orderDerives_k9 orderDerives_k10 orderDerives_k11 orderDerives_k12 orderDerives_k13 orderDerives_k14 orderDerives_k15 orderDerives_k16 orderDerives_k17 orderDerives_k18 orderDerives_k19 orderDerives_k20 orderDerives_k21 orderDerives_k22 orderDerives_k23 fact24 mayEnter_yes orderDerives_k26 orderDerives_k27 orderDerives_k28 orderDerives_k29 orderDerives_k30 orderDerives_k31)
    (of_decide_eq_true (by kernel_rfl)) (by unfold Func.isWrapper; first | (rw [if_pos (by decide +kernel)]; kernel_rfl) | (rw [if_neg (by decide +kernel)]; exact ⟨rfl, rfl⟩))
    (fun os started H enc _ => orderDerives_lifted os started H enc)
#print axioms orderDerives_proved
end Go.Proofs.Ytaooenmkofjafaa
