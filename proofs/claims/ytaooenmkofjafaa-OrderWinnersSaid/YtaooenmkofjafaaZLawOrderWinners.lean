/- Statement OrderWinners: for every input the law answers true, and each argument reads behind the call as it read before. -/
import Derived.Test.YtaooenmkofjafaaV7
import Derived.OpenShut
set_option maxRecDepth 100000
set_option linter.unusedSimpArgs false
set_option linter.unusedVariables false
namespace Go.Proofs.Ytaooenmkofjafaa
open Go.ChangeShapes Go.WideShapes Go.ChangeAt Go.RowKit
open Go.Abs (CallP Reads Rep Noblk Mu)

theorem orderWinners_lifted (os : Os) (started : os.Started) (H : Type) (enc : TypeId × Value → H) :
    ReturnsInHanded {} Try.checked os 4 .any (Rows.orderWinnersSpec.pre6 enc Try.prog Try.f4 Rows.orderWinnersRow.domain false) (Rows.orderWinnersSpec.post enc Try.prog Try.f4 false true false false) := by
  refine returnsInHanded_of_change_sized (C := Try.checked) own started (by kernel_rfl) Try.func4
    (ChangeSpec.witness6 (enc := enc) (C := Try.checked) false ⟨#[], #[.agg #[.slice none 0 0, .slice none 0 0, .slice none 0 0]], []⟩ 8 (by kernel_rfl) (by kernel_rfl) (by kernel_rfl) (by kernel_rfl)) ?_
  intro W base args ds gs before hval0 hW hcnd hsz0 _
  have hval : ∀ (j : Nat) t v, Try.f4.params[j]? = some t → args[j]? = some v → Value.okWide Try.prog W .any base t v := hval0
  have hsz : (DataW.weightsEach Try.prog (Try.f4.params.toList ++ Rows.orderWinnersSpec.plain.varTypes Try.prog) (ds ++ gs)).all (· ≤ reachBytes) = true := hsz0
  clear hval0 hsz0
  have hW' := hW
  obtain ⟨p, q, hA0, hV, rfl, hfz, hnd⟩ := hW
  have hA : DataW.TrodAll enc Try.prog W 0 (fun _ => true) true Try.f4.params.toList args.toList ds p := hA0
  clear hA0
  rw [Try.params4] at hA hval hsz
  obtain ⟨v0, vs0, d0, ds0, p0, q0, hargs, rfl, rfl, h0, r0⟩ := trodAll_cons hA
  obtain ⟨rfl, rfl, rfl⟩ := trodAll_nil r0
  obtain rfl : args = #[v0] := by cases args; simp_all
  obtain ⟨rfl, rfl⟩ := trodVars_none hV
  have w0 : ∀ n ∈ d0.weights Try.prog 25, n ≤ reachBytes := fun n hn => of_decide_eq_true (List.all_eq_true.1 hsz n (DataW.weights_mem_each (j := 0) rfl rfl n hn))
  have lt0 : ∀ x ∈ p0, x.block < W.heap.size := by obtain ⟨m, hm⟩ := h0; exact DataW.trod_lt m _ _ _ hm
  obtain ⟨a0, k0⟩ := Abs.arg_agg Try.underlying25 (reads_case enc W) (fun _ => ⟨_, rfl⟩) (hval 0 25 v0 rfl rfl) h0 w0
  have hargsR : ∀ i, i < [caseV a0].length → Rep W Noblk Mu.none ([caseV a0].getD i .junk) ((#[v0] : Array Value).getD i undef) := by
    intro i hi
    match i, hi with
    | 0, _ => exact k0
  refine (Abs.CallP.calls (lawOrderWinners_c a0 (len_of_case k0)) rfl hargsR).mono fun e W' ⟨he, bel⟩ => ?_
  subst he
  exact ⟨_, rfl, _, _, _, [], _, [], hW', trodAll_mk1 (shut_bool Try.underlying4 _), (trodAll_cons_mk (Below.trod laidOut (by kernel_rfl) (of_decide_eq_true (by kernel_rfl)) h0 bel lt0) trodAll_mk0), rfl, bel.frame _, fun h => by cases h⟩
theorem orderWinners_k0 : (Rows.orderWinnersRow.wf (OpenSpec.ofChange Rows.orderWinnersSpec)) = true := by kernel_rfl
theorem orderWinners_k3 : (Try.f4.params.all (Try.pinned.checked.prog.readableRec ·)) = true := by kernel_rfl
theorem orderWinners_k4 : (namedTie Try.pinned.checked.prog Rows.orderWinnersRow.named Rows.orderWinnersSpec.vars) = true := by kernel_rfl
theorem orderWinners_k5 : ((Rows.orderWinnersRow.stops == [])) = true := by kernel_rfl
theorem orderWinners_k7 : ((Rows.orderWinnersRow.knobs == [])) = true := by kernel_rfl
theorem orderWinners_k9 : ((Rows.orderWinnersRow.inPlace == Try.pinned.checked.prog.inPlace 4)) = true := by kernel_rfl
theorem orderWinners_k10 : ((Rows.orderWinnersRow.unfollowed == Try.pinned.checked.prog.unfollowed 4)) = true := by kernel_rfl
theorem orderWinners_k11 : ((Rows.orderWinnersRow.recurses == Try.pinned.checked.prog.recurses 4)) = true := by kernel_rfl
theorem orderWinners_k12 : ((Rows.orderWinnersRow.named == Try.pinned.checked.prog.varsNamed 4)) = true := by kernel_rfl
theorem orderWinners_k13 : ((Rows.orderWinnersRow.maps == (Try.f4.params.toList ++ Rows.orderWinnersSpec.plain.varTypes Try.pinned.checked.prog).any (Try.pinned.checked.prog.mapsRec ·))) = true := by kernel_rfl
theorem orderWinners_k14 : ((Rows.orderWinnersRow.ifaces == (Try.f4.params.toList ++ Rows.orderWinnersSpec.plain.varTypes Try.pinned.checked.prog).any (Try.pinned.checked.prog.ifacesRec ·))) = true := by kernel_rfl
theorem orderWinners_k15 : ((Rows.orderWinnersRow.mapsOut == Try.pinned.checked.prog.mapsAmong Try.f4.resultTypes.toList)) = true := by kernel_rfl
theorem orderWinners_k16 : ((Rows.orderWinnersRow.loops == (Try.f4.params.toList ++ Rows.orderWinnersSpec.plain.varTypes Try.pinned.checked.prog).any (Try.pinned.checked.prog.loopsFrom ·))) = true := by kernel_rfl
theorem orderWinners_k17 : ((Rows.orderWinnersRow.wideKeys == (Try.f4.params.toList ++ Rows.orderWinnersSpec.plain.varTypes Try.pinned.checked.prog ++ Try.f4.resultTypes.toList).any (Try.pinned.checked.prog.wideKeysFrom ·))) = true := by kernel_rfl
theorem orderWinners_k18 : (Rows.orderWinnersSpec.vars.all (Try.pinned.checked.prog.varReadable ·)) = true := by kernel_rfl
theorem orderWinners_k19 : (Try.f4.resultTypes.all (fun t => Try.pinned.checked.prog.readableRec t && decide (t < Try.pinned.checked.prog.types.size))) = true := by kernel_rfl
theorem orderWinners_k20 : ((Rows.orderWinnersRow.ifacesOut == Try.f4.resultTypes.toList.any (Try.pinned.checked.prog.ifacesRec ·))) = true := by kernel_rfl
theorem orderWinners_k21 : ((Rows.orderWinnersRow.loopsOut == Try.f4.resultTypes.toList.any (Try.pinned.checked.prog.loopsFrom ·))) = true := by kernel_rfl
theorem orderWinners_k22 : ((Rows.orderWinnersRow.plainKeys == Try.pinned.checked.prog.plainKeys)) = true := by kernel_rfl
theorem orderWinners_k23 : (Rows.orderWinnersRow.shortTexts.isNone) = true := by kernel_rfl
theorem orderWinners_k26 : ((Rows.orderWinnersRow.lifted == Try.pinned.checked.prog.liftsFinal)) = true := by rw [liftsFinal_no]; kernel_rfl
theorem orderWinners_k27 : ((Try.pinned.checked.prog.make == some Rows.orderWinnersRow.make)) = true := by rw [make_cut]; kernel_rfl
theorem orderWinners_k28 : ((Rows.orderWinnersRow.kinds == (if Rows.orderWinnersRow.domain.isEmpty then [] else Try.f4.params.toList.map fun t => match Try.pinned.checked.prog.underlying t with | some (.int k) => some k | _ => none))) = true := by kernel_rfl
theorem orderWinners_k29 : ((Rows.orderWinnersRow.pinned == Rows.orderWinnersRow.pinnedBy)) = true := by kernel_rfl
theorem orderWinners_k30 : ((Rows.orderWinnersRow.veiled == (Try.f4.params.toList ++ Rows.orderWinnersSpec.plain.varTypes Try.pinned.checked.prog ++ Try.f4.resultTypes.toList).any (Try.pinned.checked.prog.veiledRec ·))) = true := by kernel_rfl
theorem orderWinners_k31 : (Rows.orderWinnersRow.veiledFits Try.pinned.checked.prog Try.f4.params.toList (Try.f4.params.toList ++ Rows.orderWinnersSpec.plain.varTypes Try.pinned.checked.prog ++ Try.f4.resultTypes.toList)) = true := by kernel_rfl

theorem orderWinners_proved : Rows.OrderWinnersSaid :=
  OpenClaim.holds_of_wide 4 Try.f4 rfl rfl rfl rfl rfl rfl rfl ⟨rfl, rfl, rfl, rfl, rfl⟩ rfl rfl rfl rfl rfl (by kernel_rfl) Try.func4
    (joined_of orderWinners_k0 fact1 fact2 orderWinners_k3 orderWinners_k4 orderWinners_k5 fact6 orderWinners_k7 fact8 orderWinners_k9 orderWinners_k10 orderWinners_k11 orderWinners_k12 orderWinners_k13 orderWinners_k14 orderWinners_k15 orderWinners_k16 orderWinners_k17 orderWinners_k18 orderWinners_k19 orderWinners_k20 orderWinners_k21 orderWinners_k22 orderWinners_k23 fact24 mayEnter_yes orderWinners_k26 orderWinners_k27 orderWinners_k28 orderWinners_k29 orderWinners_k30 orderWinners_k31)
    (of_decide_eq_true (by kernel_rfl)) (by unfold Func.isWrapper; first | (rw [if_pos (by decide +kernel)]; kernel_rfl) | (rw [if_neg (by decide +kernel)]; exact ⟨rfl, rfl⟩))
    (fun os started H enc _ => orderWinners_lifted os started H enc)
#print axioms orderWinners_proved
end Go.Proofs.Ytaooenmkofjafaa
