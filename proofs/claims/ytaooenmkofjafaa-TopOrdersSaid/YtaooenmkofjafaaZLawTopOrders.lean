/- Statement TopOrders: for every input the law answers true, and each argument reads behind the call as it read before. -/
import Derived.Test.YtaooenmkofjafaaV5
import Derived.Test.YtaooenmkofjafaaV4
import Derived.OpenShut
set_option maxRecDepth 100000
set_option linter.unusedSimpArgs false
set_option linter.unusedVariables false
namespace Go.Proofs.Ytaooenmkofjafaa
open Go.ChangeShapes Go.WideShapes Go.ChangeAt Go.RowKit
open Go.Abs (CallP Reads Rep Noblk Mu)

theorem topOrders_lifted (os : Os) (started : os.Started) (H : Type) (enc : TypeId × Value → H) :
    ReturnsInHanded {} Try.checked os 14 .any (Rows.topOrdersSpec.pre6 enc Try.prog Try.f14 Rows.topOrdersRow.domain false) (Rows.topOrdersSpec.post enc Try.prog Try.f14 false true false false) := by
  refine returnsInHanded_of_change_sized (C := Try.checked) own started (by kernel_rfl) Try.func14
    (ChangeSpec.witness6 (enc := enc) (C := Try.checked) false ⟨#[], #[.agg #[.slice none 0 0, .slice none 0 0, .slice none 0 0], .slice none 0 0], []⟩ 8 (by kernel_rfl) (by kernel_rfl) (by kernel_rfl) (by kernel_rfl)) ?_
  intro W base args ds gs before hval0 hW hcnd hsz0 _
  have hval : ∀ (j : Nat) t v, Try.f14.params[j]? = some t → args[j]? = some v → Value.okWide Try.prog W .any base t v := hval0
  have hsz : (DataW.weightsEach Try.prog (Try.f14.params.toList ++ Rows.topOrdersSpec.plain.varTypes Try.prog) (ds ++ gs)).all (· ≤ reachBytes) = true := hsz0
  clear hval0 hsz0
  have hW' := hW
  obtain ⟨p, q, hA0, hV, rfl, hfz, hnd⟩ := hW
  have hA : DataW.TrodAll enc Try.prog W 0 (fun _ => true) true Try.f14.params.toList args.toList ds p := hA0
  clear hA0
  rw [Try.params14] at hA hval hsz
  obtain ⟨v0, vs0, d0, ds0, p0, q0, hargs, rfl, rfl, h0, r0⟩ := trodAll_cons hA
  obtain ⟨v1, vs1, d1, ds1, p1, q1, rfl, rfl, rfl, h1, r1⟩ := trodAll_cons r0
  obtain ⟨rfl, rfl, rfl⟩ := trodAll_nil r1
  obtain rfl : args = #[v0, v1] := by cases args; simp_all
  obtain ⟨rfl, rfl⟩ := trodVars_none hV
  have w0 : ∀ n ∈ d0.weights Try.prog 25, n ≤ reachBytes := fun n hn => of_decide_eq_true (List.all_eq_true.1 hsz n (DataW.weights_mem_each (j := 0) rfl rfl n hn))
  have lt0 : ∀ x ∈ p0, x.block < W.heap.size := by obtain ⟨m, hm⟩ := h0; exact DataW.trod_lt m _ _ _ hm
  obtain ⟨a0, k0⟩ := Abs.arg_agg Try.underlying25 (reads_case enc W) (fun _ => ⟨_, rfl⟩) (hval 0 25 v0 rfl rfl) h0 w0
  have w1 : ∀ n ∈ d1.weights Try.prog 23, n ≤ reachBytes := fun n hn => of_decide_eq_true (List.all_eq_true.1 hsz n (DataW.weights_mem_each (j := 1) rfl rfl n hn))
  have lt1 : ∀ x ∈ p1, x.block < W.heap.size := by obtain ⟨m, hm⟩ := h1; exact DataW.trod_lt m _ _ _ hm
  have c1 : v1.cells = #[v1] := by obtain ⟨a, len, cap, rfl⟩ := okWide_slice Try.underlying23 (hval 1 23 v1 rfl rfl); rfl
  obtain ⟨a1, k1⟩ := Abs.arg_one (reads_ints enc W) (fun _ => rfl) c1 h1 w1
  have hargsR : ∀ i, i < [caseV a0, ints a1].length → Rep W Noblk Mu.none ([caseV a0, ints a1].getD i .junk) ((#[v0, v1] : Array Value).getD i undef) := by
    intro i hi
    match i, hi with
    | 0, _ => exact k0
    | 1, _ => exact k1
  refine (Abs.CallP.calls (topOrders_c a0 a1 (len_of_case k0) (len_of_ints k1)) rfl hargsR).mono fun e W' ⟨he, bel⟩ => ?_
  subst he
  exact ⟨_, rfl, _, _, _, [], _, [], hW', trodAll_mk1 (shut_bool Try.underlying4 _), (trodAll_cons_mk (Below.trod laidOut (by kernel_rfl) (of_decide_eq_true (by kernel_rfl)) h0 bel lt0) (trodAll_cons_mk (Below.trod laidOut (by kernel_rfl) (of_decide_eq_true (by kernel_rfl)) h1 bel lt1) trodAll_mk0)), rfl, bel.frame _, fun h => by cases h⟩
theorem topOrders_k0 : (Rows.topOrdersRow.wf (OpenSpec.ofChange Rows.topOrdersSpec)) = true := by kernel_rfl
theorem topOrders_k3 : (Try.f14.params.all (Try.pinned.checked.prog.readableRec ·)) = true := by kernel_rfl
theorem topOrders_k4 : (namedTie Try.pinned.checked.prog Rows.topOrdersRow.named Rows.topOrdersSpec.vars) = true := by kernel_rfl
theorem topOrders_k5 : ((Rows.topOrdersRow.stops == [])) = true := by kernel_rfl
theorem topOrders_k7 : ((Rows.topOrdersRow.knobs == [])) = true := by kernel_rfl
theorem topOrders_k9 : ((Rows.topOrdersRow.inPlace == Try.pinned.checked.prog.inPlace 14)) = true := by kernel_rfl
theorem topOrders_k10 : ((Rows.topOrdersRow.unfollowed == Try.pinned.checked.prog.unfollowed 14)) = true := by kernel_rfl
theorem topOrders_k11 : ((Rows.topOrdersRow.recurses == Try.pinned.checked.prog.recurses 14)) = true := by kernel_rfl
theorem topOrders_k12 : ((Rows.topOrdersRow.named == Try.pinned.checked.prog.varsNamed 14)) = true := by kernel_rfl
theorem topOrders_k13 : ((Rows.topOrdersRow.maps == (Try.f14.params.toList ++ Rows.topOrdersSpec.plain.varTypes Try.pinned.checked.prog).any (Try.pinned.checked.prog.mapsRec ·))) = true := by kernel_rfl
theorem topOrders_k14 : ((Rows.topOrdersRow.ifaces == (Try.f14.params.toList ++ Rows.topOrdersSpec.plain.varTypes Try.pinned.checked.prog).any (Try.pinned.checked.prog.ifacesRec ·))) = true := by kernel_rfl
theorem topOrders_k15 : ((Rows.topOrdersRow.mapsOut == Try.pinned.checked.prog.mapsAmong Try.f14.resultTypes.toList)) = true := by kernel_rfl
theorem topOrders_k16 : ((Rows.topOrdersRow.loops == (Try.f14.params.toList ++ Rows.topOrdersSpec.plain.varTypes Try.pinned.checked.prog).any (Try.pinned.checked.prog.loopsFrom ·))) = true := by kernel_rfl
theorem topOrders_k17 : ((Rows.topOrdersRow.wideKeys == (Try.f14.params.toList ++ Rows.topOrdersSpec.plain.varTypes Try.pinned.checked.prog ++ Try.f14.resultTypes.toList).any (Try.pinned.checked.prog.wideKeysFrom ·))) = true := by kernel_rfl
theorem topOrders_k18 : (Rows.topOrdersSpec.vars.all (Try.pinned.checked.prog.varReadable ·)) = true := by kernel_rfl
theorem topOrders_k19 : (Try.f14.resultTypes.all (fun t => Try.pinned.checked.prog.readableRec t && decide (t < Try.pinned.checked.prog.types.size))) = true := by kernel_rfl
theorem topOrders_k20 : ((Rows.topOrdersRow.ifacesOut == Try.f14.resultTypes.toList.any (Try.pinned.checked.prog.ifacesRec ·))) = true := by kernel_rfl
theorem topOrders_k21 : ((Rows.topOrdersRow.loopsOut == Try.f14.resultTypes.toList.any (Try.pinned.checked.prog.loopsFrom ·))) = true := by kernel_rfl
theorem topOrders_k22 : ((Rows.topOrdersRow.plainKeys == Try.pinned.checked.prog.plainKeys)) = true := by kernel_rfl
theorem topOrders_k23 : (Rows.topOrdersRow.shortTexts.isNone) = true := by kernel_rfl
theorem topOrders_k26 : ((Rows.topOrdersRow.lifted == Try.pinned.checked.prog.liftsFinal)) = true := by rw [liftsFinal_no]; kernel_rfl
theorem topOrders_k27 : ((Try.pinned.checked.prog.make == some Rows.topOrdersRow.make)) = true := by rw [make_cut]; kernel_rfl
theorem topOrders_k28 : ((Rows.topOrdersRow.kinds == (if Rows.topOrdersRow.domain.isEmpty then [] else Try.f14.params.toList.map fun t => match Try.pinned.checked.prog.underlying t with | some (.int k) => some k | _ => none))) = true := by kernel_rfl
theorem topOrders_k29 : ((Rows.topOrdersRow.pinned == Rows.topOrdersRow.pinnedBy)) = true := by kernel_rfl
theorem topOrders_k30 : ((Rows.topOrdersRow.veiled == (Try.f14.params.toList ++ Rows.topOrdersSpec.plain.varTypes Try.pinned.checked.prog ++ Try.f14.resultTypes.toList).any (Try.pinned.checked.prog.veiledRec ·))) = true := by kernel_rfl
theorem topOrders_k31 : (Rows.topOrdersRow.veiledFits Try.pinned.checked.prog Try.f14.params.toList (Try.f14.params.toList ++ Rows.topOrdersSpec.plain.varTypes Try.pinned.checked.prog ++ Try.f14.resultTypes.toList)) = true := by kernel_rfl

theorem topOrders_proved : Rows.TopOrdersSaid :=
  OpenClaim.holds_of_wide 14 Try.f14 rfl rfl rfl rfl rfl rfl rfl ⟨rfl, rfl, rfl, rfl, rfl⟩ rfl rfl rfl rfl rfl (by kernel_rfl) Try.func14
    (joined_of topOrders_k0 fact1 fact2 topOrders_k3 topOrders_k4 topOrders_k5 fact6 topOrders_k7 fact8 topOrders_k9 topOrders_k10 topOrders_k11 topOrders_k12 topOrders_k13 topOrders_k14 topOrders_k15 topOrders_k16 topOrders_k17 topOrders_k18 topOrders_k19 topOrders_k20 topOrders_k21 topOrders_k22 topOrders_k23 fact24 mayEnter_yes topOrders_k26 topOrders_k27 topOrders_k28 topOrders_k29 topOrders_k30 topOrders_k31)
    (of_decide_eq_true (by kernel_rfl)) (by unfold Func.isWrapper; first | (rw [if_pos (by decide +kernel)]; kernel_rfl) | (rw [if_neg (by decide +kernel)]; exact ⟨rfl, rfl⟩))
    (fun os started H enc _ => topOrders_lifted os started H enc)
#print axioms topOrders_proved
end Go.Proofs.Ytaooenmkofjafaa
