/- Statement FeedReaches: for every input the law answers true, and each argument reads behind the call as it read before. -/
import Derived.Test.YtaooenmkofjafaaV7
import Derived.Test.YtaooenmkofjafaaV5
import Derived.OpenShut
set_option maxRecDepth 100000
set_option linter.unusedSimpArgs false
set_option linter.unusedVariables false
namespace Go.Proofs.Ytaooenmkofjafaa
open Go.ChangeShapes Go.WideShapes Go.ChangeAt Go.RowKit
open Go.Abs (CallP Reads Rep Noblk Mu)

theorem feedReaches_lifted (os : Os) (started : os.Started) (H : Type) (enc : TypeId × Value → H) :
    ReturnsInHanded {} Try.checked os 15 .any (Rows.feedReachesSpec.pre6 enc Try.prog Try.f15 Rows.feedReachesRow.domain false) (Rows.feedReachesSpec.post enc Try.prog Try.f15 false true false false) := by
  refine returnsInHanded_of_change_sized (C := Try.checked) own started (by kernel_rfl) Try.func15
    (ChangeSpec.witness6 (enc := enc) (C := Try.checked) false ⟨#[], #[.slice none 0 0, .slice none 0 0], []⟩ 8 (by kernel_rfl) (by kernel_rfl) (by kernel_rfl) (by kernel_rfl)) ?_
  intro W base args ds gs before hval0 hW hcnd hsz0 _
  have hval : ∀ (j : Nat) t v, Try.f15.params[j]? = some t → args[j]? = some v → Value.okWide Try.prog W .any base t v := hval0
  have hsz : (DataW.weightsEach Try.prog (Try.f15.params.toList ++ Rows.feedReachesSpec.plain.varTypes Try.prog) (ds ++ gs)).all (· ≤ reachBytes) = true := hsz0
  clear hval0 hsz0
  have hW' := hW
  obtain ⟨p, q, hA0, hV, rfl, hfz, hnd⟩ := hW
  have hA : DataW.TrodAll enc Try.prog W 0 (fun _ => true) true Try.f15.params.toList args.toList ds p := hA0
  clear hA0
  rw [Try.params15] at hA hval hsz
  obtain ⟨v0, vs0, d0, ds0, p0, q0, hargs, rfl, rfl, h0, r0⟩ := trodAll_cons hA
  obtain ⟨v1, vs1, d1, ds1, p1, q1, rfl, rfl, rfl, h1, r1⟩ := trodAll_cons r0
  obtain ⟨rfl, rfl, rfl⟩ := trodAll_nil r1
  obtain rfl : args = #[v0, v1] := by cases args; simp_all
  obtain ⟨rfl, rfl⟩ := trodVars_none hV
  have w0 : ∀ n ∈ d0.weights Try.prog 22, n ≤ reachBytes := fun n hn => of_decide_eq_true (List.all_eq_true.1 hsz n (DataW.weights_mem_each (j := 0) rfl rfl n hn))
  have lt0 : ∀ x ∈ p0, x.block < W.heap.size := by obtain ⟨m, hm⟩ := h0; exact DataW.trod_lt m _ _ _ hm
  have c0 : v0.cells = #[v0] := by obtain ⟨a, len, cap, rfl⟩ := okWide_slice Try.underlying22 (hval 0 22 v0 rfl rfl); rfl
  obtain ⟨a0, k0⟩ := Abs.arg_one (reads_rules enc W) (fun _ => rfl) c0 h0 w0
  have w1 : ∀ n ∈ d1.weights Try.prog 23, n ≤ reachBytes := fun n hn => of_decide_eq_true (List.all_eq_true.1 hsz n (DataW.weights_mem_each (j := 1) rfl rfl n hn))
  have lt1 : ∀ x ∈ p1, x.block < W.heap.size := by obtain ⟨m, hm⟩ := h1; exact DataW.trod_lt m _ _ _ hm
  have c1 : v1.cells = #[v1] := by obtain ⟨a, len, cap, rfl⟩ := okWide_slice Try.underlying23 (hval 1 23 v1 rfl rfl); rfl
  obtain ⟨a1, k1⟩ := Abs.arg_one (reads_ints enc W) (fun _ => rfl) c1 h1 w1
  have hargsR : ∀ i, i < [rulesV a0, ints a1].length → Rep W Noblk Mu.none ([rulesV a0, ints a1].getD i .junk) ((#[v0, v1] : Array Value).getD i undef) := by
    intro i hi
    match i, hi with
    | 0, _ => exact k0
    | 1, _ => exact k1
  refine (Abs.CallP.calls (lawFeedReaches_c a0 a1 (len_of_rules k0) (len_of_ints k1)) rfl hargsR).mono fun e W' ⟨he, bel⟩ => ?_
  subst he
  exact ⟨_, rfl, _, _, _, [], _, [], hW', trodAll_mk1 (shut_bool Try.underlying4 _), (trodAll_cons_mk (Below.trod laidOut (by kernel_rfl) (of_decide_eq_true (by kernel_rfl)) h0 bel lt0) (trodAll_cons_mk (Below.trod laidOut (by kernel_rfl) (of_decide_eq_true (by kernel_rfl)) h1 bel lt1) trodAll_mk0)), rfl, bel.frame _, fun h => by cases h⟩
theorem feedReaches_k0 : (Rows.feedReachesRow.wf (OpenSpec.ofChange Rows.feedReachesSpec)) = true := by kernel_rfl
theorem feedReaches_k3 : (Try.f15.params.all (Try.pinned.checked.prog.readableRec ·)) = true := by kernel_rfl
theorem feedReaches_k4 : (namedTie Try.pinned.checked.prog Rows.feedReachesRow.named Rows.feedReachesSpec.vars) = true := by kernel_rfl
theorem feedReaches_k5 : ((Rows.feedReachesRow.stops == [])) = true := by kernel_rfl
theorem feedReaches_k7 : ((Rows.feedReachesRow.knobs == [])) = true := by kernel_rfl
theorem feedReaches_k9 : ((Rows.feedReachesRow.inPlace == Try.pinned.checked.prog.inPlace 15)) = true := by kernel_rfl
theorem feedReaches_k10 : ((Rows.feedReachesRow.unfollowed == Try.pinned.checked.prog.unfollowed 15)) = true := by kernel_rfl
theorem feedReaches_k11 : ((Rows.feedReachesRow.recurses == Try.pinned.checked.prog.recurses 15)) = true := by kernel_rfl
theorem feedReaches_k12 : ((Rows.feedReachesRow.named == Try.pinned.checked.prog.varsNamed 15)) = true := by kernel_rfl
theorem feedReaches_k13 : ((Rows.feedReachesRow.maps == (Try.f15.params.toList ++ Rows.feedReachesSpec.plain.varTypes Try.pinned.checked.prog).any (Try.pinned.checked.prog.mapsRec ·))) = true := by kernel_rfl
theorem feedReaches_k14 : ((Rows.feedReachesRow.ifaces == (Try.f15.params.toList ++ Rows.feedReachesSpec.plain.varTypes Try.pinned.checked.prog).any (Try.pinned.checked.prog.ifacesRec ·))) = true := by kernel_rfl
theorem feedReaches_k15 : ((Rows.feedReachesRow.mapsOut == Try.pinned.checked.prog.mapsAmong Try.f15.resultTypes.toList)) = true := by kernel_rfl
theorem feedReaches_k16 : ((Rows.feedReachesRow.loops == (Try.f15.params.toList ++ Rows.feedReachesSpec.plain.varTypes Try.pinned.checked.prog).any (Try.pinned.checked.prog.loopsFrom ·))) = true := by kernel_rfl
theorem feedReaches_k17 : ((Rows.feedReachesRow.wideKeys == (Try.f15.params.toList ++ Rows.feedReachesSpec.plain.varTypes Try.pinned.checked.prog ++ Try.f15.resultTypes.toList).any (Try.pinned.checked.prog.wideKeysFrom ·))) = true := by kernel_rfl
theorem feedReaches_k18 : (Rows.feedReachesSpec.vars.all (Try.pinned.checked.prog.varReadable ·)) = true := by kernel_rfl
theorem feedReaches_k19 : (Try.f15.resultTypes.all (fun t => Try.pinned.checked.prog.readableRec t && decide (t < Try.pinned.checked.prog.types.size))) = true := by kernel_rfl
theorem feedReaches_k20 : ((Rows.feedReachesRow.ifacesOut == Try.f15.resultTypes.toList.any (Try.pinned.checked.prog.ifacesRec ·))) = true := by kernel_rfl
theorem feedReaches_k21 : ((Rows.feedReachesRow.loopsOut == Try.f15.resultTypes.toList.any (Try.pinned.checked.prog.loopsFrom ·))) = true := by kernel_rfl
theorem feedReaches_k22 : ((Rows.feedReachesRow.plainKeys == Try.pinned.checked.prog.plainKeys)) = true := by kernel_rfl
theorem feedReaches_k23 : (Rows.feedReachesRow.shortTexts.isNone) = true := by kernel_rfl
theorem feedReaches_k26 : ((Rows.feedReachesRow.lifted == Try.pinned.checked.prog.liftsFinal)) = true := by rw [liftsFinal_no]; kernel_rfl
theorem feedReaches_k27 : ((Try.pinned.checked.prog.make == some Rows.feedReachesRow.make)) = true := by rw [make_cut]; kernel_rfl
theorem feedReaches_k28 : ((Rows.feedReachesRow.kinds == (if Rows.feedReachesRow.domain.isEmpty then [] else Try.f15.params.toList.map fun t => match Try.pinned.checked.prog.underlying t with | some (.int k) => some k | _ => none))) = true := by kernel_rfl
theorem feedReaches_k29 : ((Rows.feedReachesRow.pinned == Rows.feedReachesRow.pinnedBy)) = true := by kernel_rfl
theorem feedReaches_k30 : ((Rows.feedReachesRow.veiled == (Try.f15.params.toList ++ Rows.feedReachesSpec.plain.varTypes Try.pinned.checked.prog ++ Try.f15.resultTypes.toList).any (Try.pinned.checked.prog.veiledRec ·))) = true := by kernel_rfl
theorem feedReaches_k31 : (Rows.feedReachesRow.veiledFits Try.pinned.checked.prog Try.f15.params.toList (Try.f15.params.toList ++ Rows.feedReachesSpec.plain.varTypes Try.pinned.checked.prog ++ Try.f15.resultTypes.toList)) = true := by kernel_rfl

theorem feedReaches_proved : Rows.FeedReachesSaid :=
  OpenClaim.holds_of_wide 15 Try.f15 rfl rfl rfl rfl rfl rfl rfl ⟨rfl, rfl, rfl, rfl, rfl⟩ rfl rfl rfl rfl rfl (by kernel_rfl) Try.func15
    (joined_of feedReaches_k0 fact1 fact2 feedReaches_k3 feedReaches_k4 feedReaches_k5 fact6 feedReaches_k7 fact8 feedReaches_k9 feedReaches_k10 feedReaches_k11 feedReaches_k12 feedReaches_k13 feedReaches_k14 feedReaches_k15 feedReaches_k16 feedReaches_k17 feedReaches_k18 feedReaches_k19 feedReaches_k20 feedReaches_k21 feedReaches_k22 feedReaches_k23 fact24 mayEnter_yes feedReaches_k26 feedReaches_k27 feedReaches_k28 feedReaches_k29 feedReaches_k30 feedReaches_k31)
    (of_decide_eq_true (by kernel_rfl)) (by unfold Func.isWrapper; first | (rw [if_pos (by decide +kernel)]; kernel_rfl) | (rw [if_neg (by decide +kernel)]; exact ⟨rfl, rfl⟩))
    (fun os started H enc _ => feedReaches_lifted os started H enc)
#print axioms feedReaches_proved
end Go.Proofs.Ytaooenmkofjafaa
