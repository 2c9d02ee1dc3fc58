/- Statement OrderChecks: for every input the law answers true, and each argument reads behind the call as it read before. -/
import Derived.Test.YtaooenmkofjafaaV7
import Derived.OpenShut
set_option maxRecDepth 100000
set_option linter.unusedSimpArgs false
set_option linter.unusedVariables false
namespace Go.Proofs.Ytaooenmkofjafaa
open Go.ChangeShapes Go.WideShapes Go.ChangeAt Go.RowKit
open Go.Abs (CallP Reads Rep Noblk Mu)

theorem orderChecks_lifted (os : Os) (started : os.Started) (H : Type) (enc : TypeId × Value → H) :
    ReturnsInHanded {} Try.checked os 5 .any (Rows.orderChecksSpec.pre6 enc Try.prog Try.f5 Rows.orderChecksRow.domain false) (Rows.orderChecksSpec.post enc Try.prog Try.f5 false true false false) := by
  refine returnsInHanded_of_change_sized (C := Try.checked) own started (by kernel_rfl) Try.func5
    (ChangeSpec.witness6 (enc := enc) (C := Try.checked) false ⟨#[], #[.agg #[.slice none 0 0, .slice none 0 0, .slice none 0 0], .slice none 0 0], []⟩ 8 (by kernel_rfl) (by kernel_rfl) (by kernel_rfl) (by kernel_rfl)) ?_
  intro W base args ds gs before hval0 hW hcnd hsz0 _
  have hval : ∀ (j : Nat) t v, Try.f5.params[j]? = some t → args[j]? = some v → Value.okWide Try.prog W .any base t v := hval0
  have hsz : (DataW.weightsEach Try.prog (Try.f5.params.toList ++ Rows.orderChecksSpec.plain.varTypes Try.prog) (ds ++ gs)).all (· ≤ reachBytes) = true := hsz0
  clear hval0 hsz0
  have hW' := hW
  obtain ⟨p, q, hA0, hV, rfl, hfz, hnd⟩ := hW
  have hA : DataW.TrodAll enc Try.prog W 0 (fun _ => true) true Try.f5.params.toList args.toList ds p := hA0
  clear hA0
  rw [Try.params5] at hA hval hsz
  obtain ⟨v0, vs0, d0, ds0, p0, q0, hargs, rfl, rfl, h0, r0⟩ := trodAll_cons hA
  obtain ⟨v1, vs1, d1, ds1, p1, q1, rfl, rfl, rfl, h1, r1⟩ := trodAll_cons r0
  obtain ⟨rfl, rfl, rfl⟩ := trodAll_nil r1
  obtain rfl : args = #[v0, v1] := by cases args; simp_all
  obtain ⟨rfl, rfl⟩ := trodVars_none hV
  have w0 : ∀ n ∈ d0.weights Try.prog 25, n ≤ reachBytes := fun n hn => of_decide_eq_true (List.all_eq_true.1 hsz n (DataW.weights_mem_each (j := 0) rfl rfl n hn))
  have lt0 : ∀ x ∈ p0, x.block < W.heap.size := by obtain ⟨m, hm⟩ := h0; exact DataW.trod_lt m _ _ _ hm
  obtain ⟨a0, k0⟩ := Abs.arg_agg Try.underlying25 (reads_case enc W) (fun _ => ⟨_, rfl⟩) (hval 0 25 v0 rfl rfl) h0 w0
  have w1 : ∀ n ∈ d1.weights Try.prog 28, n ≤ reachBytes := fun n hn => of_decide_eq_true (List.all_eq_true.1 hsz n (DataW.weights_mem_each (j := 1) rfl rfl n hn))
  have lt1 : ∀ x ∈ p1, x.block < W.heap.size := by obtain ⟨m, hm⟩ := h1; exact DataW.trod_lt m _ _ _ hm
  have c1 : v1.cells = #[v1] := by obtain ⟨a, len, cap, rfl⟩ := okWide_slice Try.underlying28 (hval 1 28 v1 rfl rfl); rfl
  obtain ⟨a1, k1⟩ := Abs.arg_one (reads_choices enc W) (fun _ => rfl) c1 h1 w1
  have hargsR : ∀ i, i < [caseV a0, choicesV a1].length → Rep W Noblk Mu.none ([caseV a0, choicesV a1].getD i .junk) ((#[v0, v1] : Array Value).getD i undef) := by
    intro i hi
    match i, hi with
    | 0, _ => exact k0
    | 1, _ => exact k1
  refine (Abs.CallP.calls (lawOrderChecks_c a0 a1 (len_of_case k0) (len_of_choices k1)) rfl hargsR).mono fun e W' ⟨he, bel⟩ => ?_
  subst he
  exact ⟨_, rfl, _, _, _, [], _, [], hW', trodAll_mk1 (shut_bool Try.underlying4 _), (trodAll_cons_mk (Below.trod laidOut (by kernel_rfl) (of_decide_eq_true (by kernel_rfl)) h0 bel lt0) (trodAll_cons_mk (Below.trod laidOut (by kernel_rfl) (of_decide_eq_true (by kernel_rfl)) h1 bel lt1) trodAll_mk0)), rfl, bel.frame _, fun h => by cases h⟩
theorem orderChecks_k0 : (Rows.orderChecksRow.wf (OpenSpec.ofChange Rows.orderChecksSpec)) = true := by kernel_rfl
theorem orderChecks_k3 : (Try.f5.params.all (Try.pinned.checked.prog.readableRec ·)) = true := by kernel_rfl
theorem orderChecks_k4 : (namedTie Try.pinned.checked.prog Rows.orderChecksRow.named Rows.orderChecksSpec.vars) = true := by kernel_rfl
theorem orderChecks_k5 : ((Rows.orderChecksRow.stops == [])) = true := by kernel_rfl
theorem orderChecks_k7 : ((Rows.orderChecksRow.knobs == [])) = true := by kernel_rfl
theorem orderChecks_k9 : ((Rows.orderChecksRow.inPlace == Try.pinned.checked.prog.inPlace 5)) = true := by kernel_rfl
theorem orderChecks_k10 : ((Rows.orderChecksRow.unfollowed == Try.pinned.checked.prog.unfollowed 5)) = true := by kernel_rfl
theorem orderChecks_k11 : ((Rows.orderChecksRow.recurses == Try.pinned.checked.prog.recurses 5)) = true := by kernel_rfl
theorem orderChecks_k12 : ((Rows.orderChecksRow.named == Try.pinned.checked.prog.varsNamed 5)) = true := by kernel_rfl
theorem orderChecks_k13 : ((Rows.orderChecksRow.maps == (Try.f5.params.toList ++ Rows.orderChecksSpec.plain.varTypes Try.pinned.checked.prog).any (Try.pinned.checked.prog.mapsRec ·))) = true := by kernel_rfl
theorem orderChecks_k14 : ((Rows.orderChecksRow.ifaces == (Try.f5.params.toList ++ Rows.orderChecksSpec.plain.varTypes Try.pinned.checked.prog).any (Try.pinned.checked.prog.ifacesRec ·))) = true := by kernel_rfl
theorem orderChecks_k15 : ((Rows.orderChecksRow.mapsOut == Try.pinned.checked.prog.mapsAmong Try.f5.resultTypes.toList)) = true := by kernel_rfl
theorem orderChecks_k16 : ((Rows.orderChecksRow.loops == (Try.f5.params.toList ++ Rows.orderChecksSpec.plain.varTypes Try.pinned.checked.prog).any (Try.pinned.checked.prog.loopsFrom ·))) = true := by kernel_rfl
theorem orderChecks_k17 : ((Rows.orderChecksRow.wideKeys == (Try.f5.params.toList ++ Rows.orderChecksSpec.plain.varTypes Try.pinned.checked.prog ++ Try.f5.resultTypes.toList).any (Try.pinned.checked.prog.wideKeysFrom ·))) = true := by kernel_rfl
theorem orderChecks_k18 : (Rows.orderChecksSpec.vars.all (Try.pinned.checked.prog.varReadable ·)) = true := by kernel_rfl
theorem orderChecks_k19 : (Try.f5.resultTypes.all (fun t => Try.pinned.checked.prog.readableRec t && decide (t < Try.pinned.checked.prog.types.size))) = true := by kernel_rfl
theorem orderChecks_k20 : ((Rows.orderChecksRow.ifacesOut == Try.f5.resultTypes.toList.any (Try.pinned.checked.prog.ifacesRec ·))) = true := by kernel_rfl
theorem orderChecks_k21 : ((Rows.orderChecksRow.loopsOut == Try.f5.resultTypes.toList.any (Try.pinned.checked.prog.loopsFrom ·))) = true := by kernel_rfl
theorem orderChecks_k22 : ((Rows.orderChecksRow.plainKeys == Try.pinned.checked.prog.plainKeys)) = true := by kernel_rfl
theorem orderChecks_k23 : (Rows.orderChecksRow.shortTexts.isNone) = true := by kernel_rfl
theorem orderChecks_k26 : ((Rows.orderChecksRow.lifted == Try.pinned.checked.prog.liftsFinal)) = true := by rw [liftsFinal_no]; kernel_rfl
theorem orderChecks_k27 : ((Try.pinned.checked.prog.make == some Rows.orderChecksRow.make)) = true := by rw [make_cut]; kernel_rfl
theorem orderChecks_k28 : ((Rows.orderChecksRow.kinds == (if Rows.orderChecksRow.domain.isEmpty then [] else Try.f5.params.toList.map fun t => match Try.pinned.checked.prog.underlying t with | some (.int k) => some k | _ => none))) = true := by kernel_rfl
theorem orderChecks_k29 : ((Rows.orderChecksRow.pinned == Rows.orderChecksRow.pinnedBy)) = true := by kernel_rfl
theorem orderChecks_k30 : ((Rows.orderChecksRow.veiled == (Try.f5.params.toList ++ Rows.orderChecksSpec.plain.varTypes Try.pinned.checked.prog ++ Try.f5.resultTypes.toList).any (Try.pinned.checked.prog.veiledRec ·))) = true := by kernel_rfl
theorem orderChecks_k31 : (Rows.orderChecksRow.veiledFits Try.pinned.checked.prog Try.f5.params.toList (Try.f5.params.toList ++ Rows.orderChecksSpec.plain.varTypes Try.pinned.checked.prog ++ Try.f5.resultTypes.toList)) = true := by kernel_rfl

theorem orderChecks_proved : Rows.OrderChecksSaid :=
  OpenClaim.holds_of_wide 5 Try.f5 rfl rfl rfl rfl rfl rfl rfl ⟨rfl, rfl, rfl, rfl, rfl⟩ rfl rfl rfl rfl rfl (by kernel_rfl) Try.func5
    (joined_of orderChecks_k0 fact1 fact2 orderChecks_k3 orderChecks_k4 orderChecks_k5 fact6 orderChecks_k7 fact8 orderChecks_k9 orderChecks_k10 orderChecks_k11 orderChecks_k12 orderChecks_k13 orderChecks_k14 orderChecks_k15 orderChecks_k16 orderChecks_k17 orderChecks_k18 orderChecks_k19 orderChecks_k20 orderChecks_k21 orderChecks_k22 orderChecks_k23 fact24 mayEnter_yes orderChecks_k26 orderChecks_k27 orderChecks_k28 orderChecks_k29 orderChecks_k30 orderChecks_k31)
    (of_decide_eq_true (by kernel_rfl)) (by unfold Func.isWrapper; first | (rw [if_pos (by decide +kernel)]; kernel_rfl) | (rw [if_neg (by decide +kernel)]; exact ⟨rfl, rfl⟩))
    (fun os started H enc _ => orderChecks_lifted os started H enc)
#print axioms orderChecks_proved
end Go.Proofs.Ytaooenmkofjafaa
