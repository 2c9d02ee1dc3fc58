/- Statement OrderDiffers: for every input the law answers true, and each argument reads behind the call as it read before. -/
import Derived.Test.YtaooenmkofjafaaV5
import Derived.Test.YtaooenmkofjafaaV6
import Derived.OpenShut
set_option maxRecDepth 100000
set_option linter.unusedSimpArgs false
set_option linter.unusedVariables false
namespace Go.Proofs.Ytaooenmkofjafaa
open Go.ChangeShapes Go.WideShapes Go.ChangeAt Go.RowKit
open Go.Abs (CallP Reads Rep Noblk Mu)

theorem orderDiffers_lifted (os : Os) (started : os.Started) (H : Type) (enc : TypeId × Value → H) :
    ReturnsInHanded {} Try.checked os 9 .any (Rows.orderDiffersSpec.pre6 enc Try.prog Try.f9 Rows.orderDiffersRow.domain false) (Rows.orderDiffersSpec.post enc Try.prog Try.f9 false true false false) := by
  refine returnsInHanded_of_change_sized (C := Try.checked) own started (by kernel_rfl) Try.func9
    (ChangeSpec.witness6 (enc := enc) (C := Try.checked) false ⟨#[], #[.agg #[.slice none 0 0, .slice none 0 0, .slice none 0 0], .slice none 0 0], []⟩ 8 (by kernel_rfl) (by kernel_rfl) (by kernel_rfl) (by kernel_rfl)) ?_
  intro W base args ds gs before hval0 hW hcnd hsz0 _
  have hval : ∀ (j : Nat) t v, Try.f9.params[j]? = some t → args[j]? = some v → Value.okWide Try.prog W .any base t v := hval0
  have hsz : (DataW.weightsEach Try.prog (Try.f9.params.toList ++ Rows.orderDiffersSpec.plain.varTypes Try.prog) (ds ++ gs)).all (· ≤ reachBytes) = true := hsz0
  clear hval0 hsz0
  have hW' := hW
  obtain ⟨p, q, hA0, hV, rfl, hfz, hnd⟩ := hW
  have hA : DataW.TrodAll enc Try.prog W 0 (fun _ => true) true Try.f9.params.toList args.toList ds p := hA0
  clear hA0
  rw [Try.params9] at hA hval hsz
  obtain ⟨v0, vs0, d0, ds0, p0, q0, hargs, rfl, rfl, h0, r0⟩ := trodAll_cons hA
  obtain ⟨v1, vs1, d1, ds1, p1, q1, rfl, rfl, rfl, h1, r1⟩ := trodAll_cons r0
  obtain ⟨rfl, rfl, rfl⟩ := trodAll_nil r1
  obtain rfl : args = #[v0, v1] := by cases args; simp_all
  obtain ⟨rfl, rfl⟩ := trodVars_none hV
  have w0 : ∀ n ∈ d0.weights Try.prog 25, n ≤ reachBytes := fun n hn => of_decide_eq_true (List.all_eq_true.1 hsz n (DataW.weights_mem_each (j := 0) rfl rfl n hn))
  have lt0 : ∀ x ∈ p0, x.block < W.heap.size := by obtain ⟨m, hm⟩ := h0; exact DataW.trod_lt m _ _ _ hm
  obtain ⟨a0, k0⟩ := Abs.arg_agg Try.underlying25 (reads_case enc W) (fun _ => ⟨_, rfl⟩) (hval 0 25 v0 rfl rfl) h0 w0
  have w1 : ∀ n ∈ d1.weights Try.prog 23, n ≤ reachBytes := fun n hn => of_decide_eq_true (List.all_eq_true.1 hsz n (DataW.weights_mem_each (j := 1) rfl rfl n hn))
  have lt1 : ∀ x ∈ p1, x.block < W.heap.size := by obtain ⟨m, hm⟩ := h1; exact DataW.trod_lt m _ _ _ hm
  have c1 : v1.cells = #[v1] := by obtain ⟨a, len, cap, rfl⟩ := okWide_slice Try.underlying23 (hval 1 23 v1 rfl rfl); rfl
  obtain ⟨a1, k1⟩ := Abs.arg_one (reads_ints enc W) (fun _ => rfl) c1 h1 w1
  have hargsR : ∀ i, i < [caseV a0, ints a1].length → Rep W Noblk Mu.none ([caseV a0, ints a1].getD i .junk) ((#[v0, v1] : Array Value).getD i undef) := by
    intro i hi
    match i, hi with
    | 0, _ => exact k0
    | 1, _ => exact k1
  refine (Abs.CallP.calls (lawOrderDiffers_c a0 a1 (len_of_case k0) (len_of_ints k1)) rfl hargsR).mono fun e W' ⟨he, bel⟩ => ?_
  subst he
  exact ⟨_, rfl, _, _, _, [], _, [], hW', trodAll_mk1 (shut_bool Try.underlying4 _), (trodAll_cons_mk (Below.trod laidOut (by kernel_rfl) (of_decide_eq_true (by kernel_rfl)) h0 bel lt0) (trodAll_cons_mk (Below.trod laidOut (by kernel_rfl) (of_decide_eq_true (by kernel_rfl)) h1 bel lt1) trodAll_mk0)), rfl, bel.frame _, fun h => by cases h⟩
theorem orderDiffers_k0 : (Rows.orderDiffersRow.wf (OpenSpec.ofChange Rows.orderDiffersSpec)) = true := by kernel_rfl
theorem orderDiffers_k3 : (Try.f9.params.all (Try.pinned.checked.prog.readableRec ·)) = true := by kernel_rfl
theorem orderDiffers_k4 : (namedTie Try.pinned.checked.prog Rows.orderDiffersRow.named Rows.orderDiffersSpec.vars) = true := by kernel_rfl
theorem orderDiffers_k5 : ((Rows.orderDiffersRow.stops == [])) = true := by kernel_rfl
theorem orderDiffers_k7 : ((Rows.orderDiffersRow.knobs == [])) = true := by kernel_rfl
theorem orderDiffers_k9 : ((Rows.orderDiffersRow.inPlace == Try.pinned.checked.prog.inPlace 9)) = true := by kernel_rfl
theorem orderDiffers_k10 : ((Rows.orderDiffersRow.unfollowed == Try.pinned.checked.prog.unfollowed 9)) = true := by kernel_rfl
theorem orderDiffers_k11 : ((Rows.orderDiffersRow.recurses == Try.pinned.checked.prog.recurses 9)) = true := by kernel_rfl
theorem orderDiffers_k12 : ((Rows.orderDiffersRow.named == Try.pinned.checked.prog.varsNamed 9)) = true := by kernel_rfl
theorem orderDiffers_k13 : ((Rows.orderDiffersRow.maps == (Try.f9.params.toList ++ Rows.orderDiffersSpec.plain.varTypes Try.pinned.checked.prog).any (Try.pinned.checked.prog.mapsRec ·))) = true := by kernel_rfl
theorem orderDiffers_k14 : ((Rows.orderDiffersRow.ifaces == (Try.f9.params.toList ++ Rows.orderDiffersSpec.plain.varTypes Try.pinned.checked.prog).any (Try.pinned.checked.prog.ifacesRec ·))) = true := by kernel_rfl
theorem orderDiffers_k15 : ((Rows.orderDiffersRow.mapsOut == Try.pinned.checked.prog.mapsAmong Try.f9.resultTypes.toList)) = true := by kernel_rfl
theorem orderDiffers_k16 : ((Rows.orderDiffersRow.loops == (Try.f9.params.toList ++ Rows.orderDiffersSpec.plain.varTypes Try.pinned.checked.prog).any (Try.pinned.checked.prog.loopsFrom ·))) = true := by kernel_rfl
theorem orderDiffers_k17 : ((Rows.orderDiffersRow.wideKeys == (Try.f9.params.toList ++ Rows.orderDiffersSpec.plain.varTypes Try.pinned.checked.prog ++ Try.f9.resultTypes.toList).any (Try.pinned.checked.prog.wideKeysFrom ·))) = true := by kernel_rfl
theorem orderDiffers_k18 : (Rows.orderDiffersSpec.vars.all (Try.pinned.checked.prog.varReadable ·)) = true := by kernel_rfl
theorem orderDiffers_k19 : (Try.f9.resultTypes.all (fun t => Try.pinned.checked.prog.readableRec t && decide (t < Try.pinned.checked.prog.types.size))) = true := by kernel_rfl
theorem orderDiffers_k20 : ((Rows.orderDiffersRow.ifacesOut == Try.f9.resultTypes.toList.any (Try.pinned.checked.prog.ifacesRec ·))) = true := by kernel_rfl
theorem orderDiffers_k21 : ((Rows.orderDiffersRow.loopsOut == Try.f9.resultTypes.toList.any (Try.pinned.checked.prog.loopsFrom ·))) = true := by kernel_rfl
theorem orderDiffers_k22 : ((Rows.orderDiffersRow.plainKeys == Try.pinned.checked.prog.plainKeys)) = true := by kernel_rfl
theorem orderDiffers_k23 : (Rows.orderDiffersRow.shortTexts.isNone) = true := by kernel_rfl
theorem orderDiffers_k26 : ((Rows.orderDiffersRow.lifted == Try.pinned.checked.prog.liftsFinal)) = true := by rw [liftsFinal_no]; kernel_rfl
theorem orderDiffers_k27 : ((Try.pinned.checked.prog.make == some Rows.orderDiffersRow.make)) = true := by rw [make_cut]; kernel_rfl
theorem orderDiffers_k28 : ((Rows.orderDiffersRow.kinds == (if Rows.orderDiffersRow.domain.isEmpty then [] else Try.f9.params.toList.map fun t => match Try.pinned.checked.prog.underlying t with | some (.int k) => some k | _ => none))) = true := by kernel_rfl
theorem orderDiffers_k29 : ((Rows.orderDiffersRow.pinned == Rows.orderDiffersRow.pinnedBy)) = true := by kernel_rfl
theorem orderDiffers_k30 : ((Rows.orderDiffersRow.veiled == (Try.f9.params.toList ++ Rows.orderDiffersSpec.plain.varTypes Try.pinned.checked.prog ++ Try.f9.resultTypes.toList).any (Try.pinned.checked.prog.veiledRec ·))) = true := by kernel_rfl
theorem orderDiffers_k31 : (Rows.orderDiffersRow.veiledFits Try.pinned.checked.prog Try.f9.params.toList (Try.f9.params.toList ++ Rows.orderDiffersSpec.plain.varTypes Try.pinned.checked.prog ++ Try.f9.resultTypes.toList)) = true := by kernel_rfl

theorem orderDiffers_proved : Rows.OrderDiffersSaid :=
  OpenClaim.holds_of_wide 9 Try.f9 rfl rfl rfl rfl rfl rfl rfl ⟨rfl, rfl, rfl, rfl, rfl⟩ rfl rfl rfl rfl rfl (by kernel_rfl) Try.func9
    (joined_of orderDiffers_k0 fact1 fact2 orderDiffers_k3 orderDiffers_k4 orderDiffers_k5 fact6 orderDiffers_k7 fact8 orderDiffers_k9 orderDiffers_k10 orderDiffers_k11 orderDiffers_k12 orderDiffers_k13 orderDiffers_k14 orderDiffers_k15 orderDiffers_k16 orderDiffers_k17 orderDiffers_k18 orderDiffers_k19 orderDiffers_k20 orderDiffers_k21 orderDiffers_k22 orderDiffers_k23 fact24 mayEnter_yes orderDiffers_k26 orderDiffers_k27 orderDiffers_k28 orderDiffers_k29 orderDiffers_k30 orderDiffers_k31)
    (of_decide_eq_true (by kernel_rfl)) (by unfold Func.isWrapper; first | (rw [if_pos (by decide +kernel)]; kernel_rfl) | (rw [if_neg (by decide +kernel)]; exact ⟨rfl, rfl⟩))
    (fun os started H enc _ => orderDiffers_lifted os started H enc)
#print axioms orderDiffers_proved
end Go.Proofs.Ytaooenmkofjafaa
