/- Statement OrderBases: for every input the law answers true, and each argument reads behind the call as it read before. -/
import Derived.Test.YtaooenmkofjafaaV6
import Derived.Test.YtaooenmkofjafaaV5
import Derived.OpenShut
set_option maxRecDepth 100000
set_option linter.unusedSimpArgs false
set_option linter.unusedVariables false
namespace Go.Proofs.Ytaooenmkofjafaa
open Go.ChangeShapes Go.WideShapes Go.ChangeAt Go.RowKit
open Go.Abs (CallP Reads Rep Noblk Mu)

theorem orderBases_lifted (os : Os) (started : os.Started) (H : Type) (enc : TypeId × Value → H) :
    ReturnsInHanded {} Try.checked os 11 .any (Rows.orderBasesSpec.pre6 enc Try.prog Try.f11 Rows.orderBasesRow.domain false) (Rows.orderBasesSpec.post enc Try.prog Try.f11 false true false false) := by
  refine returnsInHanded_of_change_sized (C := Try.checked) own started (by kernel_rfl) Try.func11
    (ChangeSpec.witness6 (enc := enc) (C := Try.checked) false ⟨#[], #[.agg #[.slice none 0 0, .slice none 0 0, .slice none 0 0], .agg #[.int .i64 0, .int .i64 0]], []⟩ 8 (by kernel_rfl) (by kernel_rfl) (by kernel_rfl) (by kernel_rfl)) ?_
  intro W base args ds gs before hval0 hW hcnd hsz0 _
  have hval : ∀ (j : Nat) t v, Try.f11.params[j]? = some t → args[j]? = some v → Value.okWide Try.prog W .any base t v := hval0
  have hsz : (DataW.weightsEach Try.prog (Try.f11.params.toList ++ Rows.orderBasesSpec.plain.varTypes Try.prog) (ds ++ gs)).all (· ≤ reachBytes) = true := hsz0
  clear hval0 hsz0
  have hW' := hW
  obtain ⟨p, q, hA0, hV, rfl, hfz, hnd⟩ := hW
  have hA : DataW.TrodAll enc Try.prog W 0 (fun _ => true) true Try.f11.params.toList args.toList ds p := hA0
  clear hA0
  rw [Try.params11] at hA hval hsz
  obtain ⟨v0, vs0, d0, ds0, p0, q0, hargs, rfl, rfl, h0, r0⟩ := trodAll_cons hA
  obtain ⟨v1, vs1, d1, ds1, p1, q1, rfl, rfl, rfl, h1, r1⟩ := trodAll_cons r0
  obtain ⟨rfl, rfl, rfl⟩ := trodAll_nil r1
  obtain rfl : args = #[v0, v1] := by cases args; simp_all
  obtain ⟨rfl, rfl⟩ := trodVars_none hV
  have w0 : ∀ n ∈ d0.weights Try.prog 25, n ≤ reachBytes := fun n hn => of_decide_eq_true (List.all_eq_true.1 hsz n (DataW.weights_mem_each (j := 0) rfl rfl n hn))
  have lt0 : ∀ x ∈ p0, x.block < W.heap.size := by obtain ⟨m, hm⟩ := h0; exact DataW.trod_lt m _ _ _ hm
  obtain ⟨a0, k0⟩ := Abs.arg_agg Try.underlying25 (reads_case enc W) (fun _ => ⟨_, rfl⟩) (hval 0 25 v0 rfl rfl) h0 w0
  have w1 : ∀ n ∈ d1.weights Try.prog 61, n ≤ reachBytes := fun n hn => of_decide_eq_true (List.all_eq_true.1 hsz n (DataW.weights_mem_each (j := 1) rfl rfl n hn))
  have lt1 : ∀ x ∈ p1, x.block < W.heap.size := by obtain ⟨m, hm⟩ := h1; exact DataW.trod_lt m _ _ _ hm
  obtain ⟨a1, k1⟩ := Abs.arg_agg Try.underlying61 (reads_size enc W) (fun _ => ⟨_, rfl⟩) (hval 1 61 v1 rfl rfl) h1 w1
  have hargsR : ∀ i, i < [caseV a0, sizeV a1].length → Rep W Noblk Mu.none ([caseV a0, sizeV a1].getD i .junk) ((#[v0, v1] : Array Value).getD i undef) := by
    intro i hi
    match i, hi with
    | 0, _ => exact k0
    | 1, _ => exact k1
  refine (Abs.CallP.calls (lawOrderBases_c a0 a1 (len_of_case k0)) rfl hargsR).mono fun e W' ⟨he, bel⟩ => ?_
  subst he
  exact ⟨_, rfl, _, _, _, [], _, [], hW', trodAll_mk1 (shut_bool Try.underlying4 _), (trodAll_cons_mk (Below.trod laidOut (by kernel_rfl) (of_decide_eq_true (by kernel_rfl)) h0 bel lt0) (trodAll_cons_mk (Below.trod laidOut (by kernel_rfl) (of_decide_eq_true (by kernel_rfl)) h1 bel lt1) trodAll_mk0)), rfl, bel.frame _, fun h => by cases h⟩
theorem orderBases_k0 : (Rows.orderBasesRow.wf (OpenSpec.ofChange Rows.orderBasesSpec)) = true := by kernel_rfl
theorem orderBases_k3 : (Try.f11.params.all (Try.pinned.checked.prog.readableRec ·)) = true := by kernel_rfl
theorem orderBases_k4 : (namedTie Try.pinned.checked.prog Rows.orderBasesRow.named Rows.orderBasesSpec.vars) = true := by kernel_rfl
theorem orderBases_k5 : ((Rows.orderBasesRow.stops == [])) = true := by kernel_rfl
theorem orderBases_k7 : ((Rows.orderBasesRow.knobs == [])) = true := by kernel_rfl
theorem orderBases_k9 : ((Rows.orderBasesRow.inPlace == Try.pinned.checked.prog.inPlace 11)) = true := by kernel_rfl
theorem orderBases_k10 : ((Rows.orderBasesRow.unfollowed == Try.pinned.checked.prog.unfollowed 11)) = true := by kernel_rfl
theorem orderBases_k11 : ((Rows.orderBasesRow.recurses == Try.pinned.checked.prog.recurses 11)) = true := by kernel_rfl
theorem orderBases_k12 : ((Rows.orderBasesRow.named == Try.pinned.checked.prog.varsNamed 11)) = true := by kernel_rfl
theorem orderBases_k13 : ((Rows.orderBasesRow.maps == (Try.f11.params.toList ++ Rows.orderBasesSpec.plain.varTypes Try.pinned.checked.prog).any (Try.pinned.checked.prog.mapsRec ·))) = true := by kernel_rfl
theorem orderBases_k14 : ((Rows.orderBasesRow.ifaces == (Try.f11.params.toList ++ Rows.orderBasesSpec.plain.varTypes Try.pinned.checked.prog).any (Try.pinned.checked.prog.ifacesRec ·))) = true := by kernel_rfl
theorem orderBases_k15 : ((Rows.orderBasesRow.mapsOut == Try.pinned.checked.prog.mapsAmong Try.f11.resultTypes.toList)) = true := by kernel_rfl
theorem orderBases_k16 : ((Rows.orderBasesRow.loops == (Try.f11.params.toList ++ Rows.orderBasesSpec.plain.varTypes Try.pinned.checked.prog).any (Try.pinned.checked.prog.loopsFrom ·))) = true := by kernel_rfl
theorem orderBases_k17 : ((Rows.orderBasesRow.wideKeys == (Try.f11.params.toList ++ Rows.orderBasesSpec.plain.varTypes Try.pinned.checked.prog ++ Try.f11.resultTypes.toList).any (Try.pinned.checked.prog.wideKeysFrom ·))) = true := by kernel_rfl
theorem orderBases_k18 : (Rows.orderBasesSpec.vars.all (Try.pinned.checked.prog.varReadable ·)) = true := by kernel_rfl
theorem orderBases_k19 : (Try.f11.resultTypes.all (fun t => Try.pinned.checked.prog.readableRec t && decide (t < Try.pinned.checked.prog.types.size))) = true := by kernel_rfl
theorem orderBases_k20 : ((Rows.orderBasesRow.ifacesOut == Try.f11.resultTypes.toList.any (Try.pinned.checked.prog.ifacesRec ·))) = true := by kernel_rfl
theorem orderBases_k21 : ((Rows.orderBasesRow.loopsOut == Try.f11.resultTypes.toList.any (Try.pinned.checked.prog.loopsFrom ·))) = true := by kernel_rfl
theorem orderBases_k22 : ((Rows.orderBasesRow.plainKeys == Try.pinned.checked.prog.plainKeys)) = true := by kernel_rfl
theorem orderBases_k23 : (Rows.orderBasesRow.shortTexts.isNone) = true := by kernel_rfl
theorem orderBases_k26 : ((Rows.orderBasesRow.lifted == Try.pinned.checked.prog.liftsFinal)) = true := by rw [liftsFinal_no]; kernel_rfl
theorem orderBases_k27 : ((Try.pinned.checked.prog.make == some Rows.orderBasesRow.make)) = true := by rw [make_cut]; kernel_rfl
theorem orderBases_k28 : ((Rows.orderBasesRow.kinds == (if Rows.orderBasesRow.domain.isEmpty then [] else Try.f11.params.toList.map fun t => match Try.pinned.checked.prog.underlying t with | some (.int k) => some k | _ => none))) = true := by kernel_rfl
theorem orderBases_k29 : ((Rows.orderBasesRow.pinned == Rows.orderBasesRow.pinnedBy)) = true := by kernel_rfl
theorem orderBases_k30 : ((Rows.orderBasesRow.veiled == (Try.f11.params.toList ++ Rows.orderBasesSpec.plain.varTypes Try.pinned.checked.prog ++ Try.f11.resultTypes.toList).any (Try.pinned.checked.prog.veiledRec ·))) = true := by kernel_rfl
theorem orderBases_k31 : (Rows.orderBasesRow.veiledFits Try.pinned.checked.prog Try.f11.params.toList (Try.f11.params.toList ++ Rows.orderBasesSpec.plain.varTypes Try.pinned.checked.prog ++ Try.f11.resultTypes.toList)) = true := by kernel_rfl

theorem orderBases_proved : Rows.OrderBasesSaid :=
  OpenClaim.holds_of_wide 11 Try.f11 rfl rfl rfl rfl rfl rfl rfl ⟨rfl, rfl, rfl, rfl, rfl⟩ rfl rfl rfl rfl rfl (by kernel_rfl) Try.func11
    (joined_of orderBases_k0 fact1 fact2 orderBases_k3 orderBases_k4 orderBases_k5 fact6 orderBases_k7 fact8 orderBases_k9 orderBases_k10 orderBases_k11 orderBases_k12 orderBases_k13 orderBases_k14 orderBases_k15 orderBases_k16 orderBases_k17 orderBases_k18 orderBases_k19 orderBases_k20 orderBases_k21 orderBases_k22 orderBases_k23 fact24 mayEnter_yes orderBases_k26 orderBases_k27 orderBases_k28 orderBases_k29 orderBases_k30 orderBases_k31)
    (of_decide_eq_true (by kernel_rfl)) (by unfold Func.isWrapper; first | (rw [if_pos (by decide +kernel)]; kernel_rfl) | (rw [if_neg (by decide +kernel)]; exact ⟨rfl, rfl⟩))
    (fun os started H enc _ => orderBases_lifted os started H enc)
#print axioms orderBases_proved
end Go.Proofs.Ytaooenmkofjafaa
