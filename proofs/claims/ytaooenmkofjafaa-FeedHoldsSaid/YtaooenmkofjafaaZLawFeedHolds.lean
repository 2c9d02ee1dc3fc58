/- Statement FeedHolds: for every input the law answers true, and each argument reads behind the call as it read before. -/
import Derived.Test.YtaooenmkofjafaaV6
import Derived.Test.YtaooenmkofjafaaV5
import Derived.OpenShut
set_option maxRecDepth 100000
set_option linter.unusedSimpArgs false
set_option linter.unusedVariables false
namespace Go.Proofs.Ytaooenmkofjafaa
open Go.ChangeShapes Go.WideShapes Go.ChangeAt Go.RowKit
open Go.Abs (CallP Reads Rep Noblk Mu)

theorem feedHolds_lifted (os : Os) (started : os.Started) (H : Type) (enc : TypeId × Value → H) :
    ReturnsInHanded {} Try.checked os 25 .any (Rows.feedHoldsSpec.pre6 enc Try.prog Try.f25 Rows.feedHoldsRow.domain false) (Rows.feedHoldsSpec.post enc Try.prog Try.f25 false true false false) := by
  refine returnsInHanded_of_change_sized (C := Try.checked) own started (by kernel_rfl) Try.func25
    (ChangeSpec.witness6 (enc := enc) (C := Try.checked) false ⟨#[], #[.slice none 0 0, .slice none 0 0, .slice none 0 0], []⟩ 8 (by kernel_rfl) (by kernel_rfl) (by kernel_rfl) (by kernel_rfl)) ?_
  intro W base args ds gs before hval0 hW hcnd hsz0 _
  have hval : ∀ (j : Nat) t v, Try.f25.params[j]? = some t → args[j]? = some v → Value.okWide Try.prog W .any base t v := hval0
  have hsz : (DataW.weightsEach Try.prog (Try.f25.params.toList ++ Rows.feedHoldsSpec.plain.varTypes Try.prog) (ds ++ gs)).all (· ≤ reachBytes) = true := hsz0
  clear hval0 hsz0
  have hW' := hW
  obtain ⟨p, q, hA0, hV, rfl, hfz, hnd⟩ := hW
  have hA : DataW.TrodAll enc Try.prog W 0 (fun _ => true) true Try.f25.params.toList args.toList ds p := hA0
  clear hA0
  rw [Try.params25] at hA hval hsz
  obtain ⟨v0, vs0, d0, ds0, p0, q0, hargs, rfl, rfl, h0, r0⟩ := trodAll_cons hA
  obtain ⟨v1, vs1, d1, ds1, p1, q1, rfl, rfl, rfl, h1, r1⟩ := trodAll_cons r0
  obtain ⟨v2, vs2, d2, ds2, p2, q2, rfl, rfl, rfl, h2, r2⟩ := trodAll_cons r1
  obtain ⟨rfl, rfl, rfl⟩ := trodAll_nil r2
  obtain rfl : args = #[v0, v1, v2] := by cases args; simp_all
  obtain ⟨rfl, rfl⟩ := trodVars_none hV
  have w0 : ∀ n ∈ d0.weights Try.prog 22, n ≤ reachBytes := fun n hn => of_decide_eq_true (List.all_eq_true.1 hsz n (DataW.weights_mem_each (j := 0) rfl rfl n hn))
  have lt0 : ∀ x ∈ p0, x.block < W.heap.size := by obtain ⟨m, hm⟩ := h0; exact DataW.trod_lt m _ _ _ hm
  have c0 : v0.cells = #[v0] := by obtain ⟨a, len, cap, rfl⟩ := okWide_slice Try.underlying22 (hval 0 22 v0 rfl rfl); rfl
  obtain ⟨a0, k0⟩ := Abs.arg_one (reads_rules enc W) (fun _ => rfl) c0 h0 w0
  have w1 : ∀ n ∈ d1.weights Try.prog 23, n ≤ reachBytes := fun n hn => of_decide_eq_true (List.all_eq_true.1 hsz n (DataW.weights_mem_each (j := 1) rfl rfl n hn))
  have lt1 : ∀ x ∈ p1, x.block < W.heap.size := by obtain ⟨m, hm⟩ := h1; exact DataW.trod_lt m _ _ _ hm
  have c1 : v1.cells = #[v1] := by obtain ⟨a, len, cap, rfl⟩ := okWide_slice Try.underlying23 (hval 1 23 v1 rfl rfl); rfl
  obtain ⟨a1, k1⟩ := Abs.arg_one (reads_ints enc W) (fun _ => rfl) c1 h1 w1
  have w2 : ∀ n ∈ d2.weights Try.prog 23, n ≤ reachBytes := fun n hn => of_decide_eq_true (List.all_eq_true.1 hsz n (DataW.weights_mem_each (j := 2) rfl rfl n hn))
  have lt2 : ∀ x ∈ p2, x.block < W.heap.size := by obtain ⟨m, hm⟩ := h2; exact DataW.trod_lt m _ _ _ hm
  have c2 : v2.cells = #[v2] := by obtain ⟨a, len, cap, rfl⟩ := okWide_slice Try.underlying23 (hval 2 23 v2 rfl rfl); rfl
  obtain ⟨a2, k2⟩ := Abs.arg_one (reads_ints enc W) (fun _ => rfl) c2 h2 w2
  have hargsR : ∀ i, i < [rulesV a0, ints a1, ints a2].length → Rep W Noblk Mu.none ([rulesV a0, ints a1, ints a2].getD i .junk) ((#[v0, v1, v2] : Array Value).getD i undef) := by
    intro i hi
    match i, hi with
    | 0, _ => exact k0
    | 1, _ => exact k1
    | 2, _ => exact k2
  refine (Abs.CallP.calls (lawFeedHolds_c a0 a1 a2 (len_of_rules k0) (len_of_ints k1) (len_of_ints k2)) rfl hargsR).mono fun e W' ⟨he, bel⟩ => ?_
  subst he
  exact ⟨_, rfl, _, _, _, [], _, [], hW', trodAll_mk1 (shut_bool Try.underlying4 _), (trodAll_cons_mk (Below.trod laidOut (by kernel_rfl) (of_decide_eq_true (by kernel_rfl)) h0 bel lt0) (trodAll_cons_mk (Below.trod laidOut (by kernel_rfl) (of_decide_eq_true (by kernel_rfl)) h1 bel lt1) (trodAll_cons_mk (Below.trod laidOut (by kernel_rfl) (of_decide_eq_true (by kernel_rfl)) h2 bel lt2) trodAll_mk0))), rfl, bel.frame _, fun h => by cases h⟩
theorem feedHolds_k0 : (Rows.feedHoldsRow.wf (OpenSpec.ofChange Rows.feedHoldsSpec)) = true := by kernel_rfl
theorem feedHolds_k3 : (Try.f25.params.all (Try.pinned.checked.prog.readableRec ·)) = true := by kernel_rfl
theorem feedHolds_k4 : (namedTie Try.pinned.checked.prog Rows.feedHoldsRow.named Rows.feedHoldsSpec.vars) = true := by kernel_rfl
theorem feedHolds_k5 : ((Rows.feedHoldsRow.stops == [])) = true := by kernel_rfl
theorem feedHolds_k7 : ((Rows.feedHoldsRow.knobs == [])) = true := by kernel_rfl
theorem feedHolds_k9 : ((Rows.feedHoldsRow.inPlace == Try.pinned.checked.prog.inPlace 25)) = true := by kernel_rfl
theorem feedHolds_k10 : ((Rows.feedHoldsRow.unfollowed == Try.pinned.checked.prog.unfollowed 25)) = true := by kernel_rfl
theorem feedHolds_k11 : ((Rows.feedHoldsRow.recurses == Try.pinned.checked.prog.recurses 25)) = true := by kernel_rfl
theorem feedHolds_k12 : ((Rows.feedHoldsRow.named == Try.pinned.checked.prog.varsNamed 25)) = true := by kernel_rfl
theorem feedHolds_k13 : ((Rows.feedHoldsRow.maps == (Try.f25.params.toList ++ Rows.feedHoldsSpec.plain.varTypes Try.pinned.checked.prog).any (Try.pinned.checked.prog.mapsRec ·))) = true := by kernel_rfl
theorem feedHolds_k14 : ((Rows.feedHoldsRow.ifaces == (Try.f25.params.toList ++ Rows.feedHoldsSpec.plain.varTypes Try.pinned.checked.prog).any (Try.pinned.checked.prog.ifacesRec ·))) = true := by kernel_rfl
theorem feedHolds_k15 : ((Rows.feedHoldsRow.mapsOut == Try.pinned.checked.prog.mapsAmong Try.f25.resultTypes.toList)) = true := by kernel_rfl
theorem feedHolds_k16 : ((Rows.feedHoldsRow.loops == (Try.f25.params.toList ++ Rows.feedHoldsSpec.plain.varTypes Try.pinned.checked.prog).any (Try.pinned.checked.prog.loopsFrom ·))) = true := by kernel_rfl
theorem feedHolds_k17 : ((Rows.feedHoldsRow.wideKeys == (Try.f25.params.toList ++ Rows.feedHoldsSpec.plain.varTypes Try.pinned.checked.prog ++ Try.f25.resultTypes.toList).any (Try.pinned.checked.prog.wideKeysFrom ·))) = true := by kernel_rfl
theorem feedHolds_k18 : (Rows.feedHoldsSpec.vars.all (Try.pinned.checked.prog.varReadable ·)) = true := by kernel_rfl
theorem feedHolds_k19 : (Try.f25.resultTypes.all (fun t => Try.pinned.checked.prog.readableRec t && decide (t < Try.pinned.checked.prog.types.size))) = true := by kernel_rfl
theorem feedHolds_k20 : ((Rows.feedHoldsRow.ifacesOut == Try.f25.resultTypes.toList.any (Try.pinned.checked.prog.ifacesRec ·))) = true := by kernel_rfl
theorem feedHolds_k21 : ((Rows.feedHoldsRow.loopsOut == Try.f25.resultTypes.toList.any (Try.pinned.checked.prog.loopsFrom ·))) = true := by kernel_rfl
theorem feedHolds_k22 : ((Rows.feedHoldsRow.plainKeys == Try.pinned.checked.prog.plainKeys)) = true := by kernel_rfl
theorem feedHolds_k23 : (Rows.feedHoldsRow.shortTexts.isNone) = true := by kernel_rfl
theorem feedHolds_k26 : ((Rows.feedHoldsRow.lifted == Try.pinned.checked.prog.liftsFinal)) = true := by rw [liftsFinal_no]; kernel_rfl
theorem feedHolds_k27 : ((Try.pinned.checked.prog.make == some Rows.feedHoldsRow.make)) = true := by rw [make_cut]; kernel_rfl
theorem feedHolds_k28 : ((Rows.feedHoldsRow.kinds == (if Rows.feedHoldsRow.domain.isEmpty then [] else Try.f25.params.toList.map fun t => match Try.pinned.checked.prog.underlying t with | some (.int k) => some k | _ => none))) = true := by kernel_rfl
theorem feedHolds_k29 : ((Rows.feedHoldsRow.pinned == Rows.feedHoldsRow.pinnedBy)) = true := by kernel_rfl
theorem feedHolds_k30 : ((Rows.feedHoldsRow.veiled == (Try.f25.params.toList ++ Rows.feedHoldsSpec.plain.varTypes Try.pinned.checked.prog ++ Try.f25.resultTypes.toList).any (Try.pinned.checked.prog.veiledRec ·))) = true := by kernel_rfl
theorem feedHolds_k31 : (Rows.feedHoldsRow.veiledFits Try.pinned.checked.prog Try.f25.params.toList (Try.f25.params.toList ++ Rows.feedHoldsSpec.plain.varTypes Try.pinned.checked.prog ++ Try.f25.resultTypes.toList)) = true := by kernel_rfl

theorem feedHolds_proved : Rows.FeedHoldsSaid :=
  OpenClaim.holds_of_wide 25 Try.f25 rfl rfl rfl rfl rfl rfl rfl ⟨rfl, rfl, rfl, rfl, rfl⟩ rfl rfl rfl rfl rfl (by kernel_rfl) Try.func25
    (joined_of feedHolds_k0 fact1 fact2 feedHolds_k3 feedHolds_k4 feedHolds_k5 fact6 feedHolds_k7 fact8 feedHolds_k9 feedHolds_k10 feedHolds_k11 feedHolds_k12 feedHolds_k13 feedHolds_k14 feedHolds_k15 feedHolds_k16 feedHolds_k17 feedHolds_k18 feedHolds_k19 feedHolds_k20 feedHolds_k21 feedHolds_k22 feedHolds_k23 fact24 mayEnter_yes feedHolds_k26 feedHolds_k27 feedHolds_k28 feedHolds_k29 feedHolds_k30 feedHolds_k31)
    (of_decide_eq_true (by kernel_rfl)) (by unfold Func.isWrapper; first | (rw [if_pos (by decide +kernel)]; kernel_rfl) | (rw [if_neg (by decide +kernel)]; exact ⟨rfl, rfl⟩))
    (fun os started H enc _ => feedHolds_lifted os started H enc)
#print axioms feedHolds_proved
end Go.Proofs.Ytaooenmkofjafaa
