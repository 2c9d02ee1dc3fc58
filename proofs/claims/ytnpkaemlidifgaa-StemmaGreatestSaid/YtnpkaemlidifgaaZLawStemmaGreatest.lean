/- Statement StemmaGreatest: for every input the law answers true, and each argument reads behind the call as it read before. -/
import Derived.Test.YtnpkaemlidifgaaV5
import Derived.Test.YtnpkaemlidifgaaV6
import Derived.OpenShut
set_option maxRecDepth 100000
set_option linter.unusedSimpArgs false
set_option linter.unusedVariables false
namespace Go.Proofs.Ytnpkaemlidifgaa
open Go.ChangeShapes Go.WideShapes Go.ChangeAt Go.RowKit
open Go.Abs (CallP Reads Rep Noblk Mu)

theorem stemmaGreatest_lifted (os : Os) (started : os.Started) (H : Type) (enc : TypeId × Value → H) :
    ReturnsInHanded {} Try.checked os 15 .any (Rows.stemmaGreatestSpec.pre6 enc Try.prog Try.f15 Rows.stemmaGreatestRow.domain false) (Rows.stemmaGreatestSpec.post enc Try.prog Try.f15 false true false false) := by
  refine returnsInHanded_of_change_sized (C := Try.checked) own started (by kernel_rfl) Try.func15
    (ChangeSpec.witness6 (enc := enc) (C := Try.checked) false ⟨#[], #[.slice none 0 0], []⟩ 8 (by kernel_rfl) (by kernel_rfl) (by kernel_rfl) (by kernel_rfl)) ?_
  intro W base args ds gs before hval0 hW hcnd hsz0 _
  have hval : ∀ (j : Nat) t v, Try.f15.params[j]? = some t → args[j]? = some v → Value.okWide Try.prog W .any base t v := hval0
  have hsz : (DataW.weightsEach Try.prog (Try.f15.params.toList ++ Rows.stemmaGreatestSpec.plain.varTypes Try.prog) (ds ++ gs)).all (· ≤ reachBytes) = true := hsz0
  clear hval0 hsz0
  have hW' := hW
  obtain ⟨p, q, hA0, hV, rfl, hfz, hnd⟩ := hW
  have hA : DataW.TrodAll enc Try.prog W 0 (fun _ => true) true Try.f15.params.toList args.toList ds p := hA0
  clear hA0
  rw [Try.params15] at hA hval hsz
  obtain ⟨v0, vs0, d0, ds0, p0, q0, hargs, rfl, rfl, h0, r0⟩ := trodAll_cons hA
  obtain ⟨rfl, rfl, rfl⟩ := trodAll_nil r0
  obtain rfl : args = #[v0] := by cases args; simp_all
  obtain ⟨rfl, rfl⟩ := trodVars_none hV
  have w0 : ∀ n ∈ d0.weights Try.prog 22, n ≤ reachBytes := fun n hn => of_decide_eq_true (List.all_eq_true.1 hsz n (DataW.weights_mem_each (j := 0) rfl rfl n hn))
  have lt0 : ∀ x ∈ p0, x.block < W.heap.size := by obtain ⟨m, hm⟩ := h0; exact DataW.trod_lt m _ _ _ hm
  have c0 : v0.cells = #[v0] := by obtain ⟨a, len, cap, rfl⟩ := okWide_slice Try.underlying22 (hval 0 22 v0 rfl rfl); rfl
  obtain ⟨a0, k0⟩ := Abs.arg_one (reads_rds enc W) (fun _ => rfl) c0 h0 w0
  have hargsR : ∀ i, i < [rdsV a0].length → Rep W Noblk Mu.none ([rdsV a0].getD i .junk) ((#[v0] : Array Value).getD i undef) := by
    intro i hi
    match i, hi with
    | 0, _ => exact k0
  refine (Abs.CallP.calls (lawStemmaGreatest_c a0 (len_of_rds k0)) rfl hargsR).mono fun e W' ⟨he, bel⟩ => ?_
  subst he
  exact ⟨_, rfl, _, _, _, [], _, [], hW', trodAll_mk1 (shut_bool Try.underlying4 _), (trodAll_cons_mk (Below.trod laidOut (by kernel_rfl) (of_decide_eq_true (by kernel_rfl)) h0 bel lt0) trodAll_mk0), rfl, bel.frame _, fun h => by cases h⟩
theorem stemmaGreatest_k0 : (Rows.stemmaGreatestRow.wf (OpenSpec.ofChange Rows.stemmaGreatestSpec)) = true := by kernel_rfl
theorem stemmaGreatest_k3 : (Try.f15.params.all (Try.pinned.checked.prog.readableRec ·)) = true := by kernel_rfl
theorem stemmaGreatest_k4 : (namedTie Try.pinned.checked.prog Rows.stemmaGreatestRow.named Rows.stemmaGreatestSpec.vars) = true := by kernel_rfl
theorem stemmaGreatest_k5 : ((Rows.stemmaGreatestRow.stops == [])) = true := by kernel_rfl
theorem stemmaGreatest_k7 : ((Rows.stemmaGreatestRow.knobs == [])) = true := by kernel_rfl
theorem stemmaGreatest_k9 : ((Rows.stemmaGreatestRow.inPlace == Try.pinned.checked.prog.inPlace 15)) = true := by kernel_rfl
theorem stemmaGreatest_k10 : ((Rows.stemmaGreatestRow.unfollowed == Try.pinned.checked.prog.unfollowed 15)) = true := by kernel_rfl
theorem stemmaGreatest_k11 : ((Rows.stemmaGreatestRow.recurses == Try.pinned.checked.prog.recurses 15)) = true := by kernel_rfl
theorem stemmaGreatest_k12 : ((Rows.stemmaGreatestRow.named == Try.pinned.checked.prog.varsNamed 15)) = true := by kernel_rfl
theorem stemmaGreatest_k13 : ((Rows.stemmaGreatestRow.maps == (Try.f15.params.toList ++ Rows.stemmaGreatestSpec.plain.varTypes Try.pinned.checked.prog).any (Try.pinned.checked.prog.mapsRec ·))) = true := by kernel_rfl
theorem stemmaGreatest_k14 : ((Rows.stemmaGreatestRow.ifaces == (Try.f15.params.toList ++ Rows.stemmaGreatestSpec.plain.varTypes Try.pinned.checked.prog).any (Try.pinned.checked.prog.ifacesRec ·))) = true := by kernel_rfl
theorem stemmaGreatest_k15 : ((Rows.stemmaGreatestRow.mapsOut == Try.pinned.checked.prog.mapsAmong Try.f15.resultTypes.toList)) = true := by kernel_rfl
theorem stemmaGreatest_k16 : ((Rows.stemmaGreatestRow.loops == (Try.f15.params.toList ++ Rows.stemmaGreatestSpec.plain.varTypes Try.pinned.checked.prog).any (Try.pinned.checked.prog.loopsFrom ·))) = true := by kernel_rfl
theorem stemmaGreatest_k17 : ((Rows.stemmaGreatestRow.wideKeys == (Try.f15.params.toList ++ Rows.stemmaGreatestSpec.plain.varTypes Try.pinned.checked.prog ++ Try.f15.resultTypes.toList).any (Try.pinned.checked.prog.wideKeysFrom ·))) = true := by kernel_rfl
theorem stemmaGreatest_k18 : (Rows.stemmaGreatestSpec.vars.all (Try.pinned.checked.prog.varReadable ·)) = true := by kernel_rfl
theorem stemmaGreatest_k19 : (Try.f15.resultTypes.all (fun t => Try.pinned.checked.prog.readableRec t && decide (t < Try.pinned.checked.prog.types.size))) = true := by kernel_rfl
theorem stemmaGreatest_k20 : ((Rows.stemmaGreatestRow.ifacesOut == Try.f15.resultTypes.toList.any (Try.pinned.checked.prog.ifacesRec ·))) = true := by kernel_rfl
theorem stemmaGreatest_k21 : ((Rows.stemmaGreatestRow.loopsOut == Try.f15.resultTypes.toList.any (Try.pinned.checked.prog.loopsFrom ·))) = true := by kernel_rfl
theorem stemmaGreatest_k22 : ((Rows.stemmaGreatestRow.plainKeys == Try.pinned.checked.prog.plainKeys)) = true := by kernel_rfl
theorem stemmaGreatest_k23 : (Rows.stemmaGreatestRow.shortTexts.isNone) = true := by kernel_rfl
theorem stemmaGreatest_k26 : ((Rows.stemmaGreatestRow.lifted == Try.pinned.checked.prog.liftsFinal)) = true := by rw [liftsFinal_no]; kernel_rfl
theorem stemmaGreatest_k27 : ((Try.pinned.checked.prog.make == some Rows.stemmaGreatestRow.make)) = true := by rw [make_cut]; kernel_rfl
theorem stemmaGreatest_k28 : ((Rows.stemmaGreatestRow.kinds == (if Rows.stemmaGreatestRow.domain.isEmpty then [] else Try.f15.params.toList.map fun t => match Try.pinned.checked.prog.underlying t with | some (.int k) => some k | _ => none))) = true := by kernel_rfl
theorem stemmaGreatest_k29 : ((Rows.stemmaGreatestRow.pinned == Rows.stemmaGreatestRow.pinnedBy)) = true := by kernel_rfl
theorem stemmaGreatest_k30 : ((Rows.stemmaGreatestRow.veiled == (Try.f15.params.toList ++ Rows.stemmaGreatestSpec.plain.varTypes Try.pinned.checked.prog ++ Try.f15.resultTypes.toList).any (Try.pinned.checked.prog.veiledRec ·))) = true := by kernel_rfl
theorem stemmaGreatest_k31 : (Rows.stemmaGreatestRow.veiledFits Try.pinned.checked.prog Try.f15.params.toList (Try.f15.params.toList ++ Rows.stemmaGreatestSpec.plain.varTypes Try.pinned.checked.prog ++ Try.f15.resultTypes.toList)) = true := by kernel_rfl

theorem stemmaGreatest_proved : Rows.StemmaGreatestSaid :=
  OpenClaim.holds_of_wide 15 Try.f15 rfl rfl rfl rfl rfl rfl rfl ⟨rfl, rfl, rfl, rfl, rfl⟩ rfl rfl rfl rfl rfl (by kernel_rfl) Try.func15
    (joined_of stemmaGreatest_k0 fact1 fact2 stemmaGreatest_k3 stemmaGreatest_k4 stemmaGreatest_k5 fact6 stemmaGreatest_k7 fact8 stemmaGreatest_k9 stemmaGreatest_k10 stemmaGreatest_k11 stemmaGreatest_k12 stemmaGreatest_k13 stemmaGreatest_k14 stemmaGreatest_k15 stemmaGreatest_k16 stemmaGreatest_k17 stemmaGreatest_k18 stemmaGreatest_k19 stemmaGreatest_k20 stemmaGreatest_k21 stemmaGreatest_k22 stemmaGreatest_k23 fact24 mayEnter_yes stemmaGreatest_k26 stemmaGreatest_k27 stemmaGreatest_k28 stemmaGreatest_k29 stemmaGreatest_k30 stemmaGreatest_k31)
    (of_decide_eq_true (by kernel_rfl)) (by unfold Func.isWrapper; first | (rw [if_pos (by decide +kernel)]; kernel_rfl) | (rw [if_neg (by decide +kernel)]; exact ⟨rfl, rfl⟩))
    (fun os started H enc _ => stemmaGreatest_lifted os started H enc)
#print axioms stemmaGreatest_proved
end Go.Proofs.Ytnpkaemlidifgaa
