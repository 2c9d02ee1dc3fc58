/- Statement StemmaReadings: for every input the law answers true, and each argument reads behind the call as it read before. -/
import Derived.Test.YtnpkaemlidifgaaV6
import Derived.Test.YtnpkaemlidifgaaV7
import Derived.OpenShut
set_option maxRecDepth 100000
set_option linter.unusedSimpArgs false
set_option linter.unusedVariables false
namespace Go.Proofs.Ytnpkaemlidifgaa
open Go.ChangeShapes Go.WideShapes Go.ChangeAt Go.RowKit
open Go.Abs (CallP Reads Rep Noblk Mu)

theorem stemmaReadings_lifted (os : Os) (started : os.Started) (H : Type) (enc : TypeId × Value → H) :
    ReturnsInHanded {} Try.checked os 4 .any (Rows.stemmaReadingsSpec.pre6 enc Try.prog Try.f4 Rows.stemmaReadingsRow.domain false) (Rows.stemmaReadingsSpec.post enc Try.prog Try.f4 false true false false) := by
  refine returnsInHanded_of_change_sized (C := Try.checked) own started (by kernel_rfl) Try.func4
    (ChangeSpec.witness6 (enc := enc) (C := Try.checked) false ⟨#[], #[.slice none 0 0, .agg #[.slice none 0 0, .slice none 0 0], .int .i64 0], []⟩ 8 (by kernel_rfl) (by kernel_rfl) (by kernel_rfl) (by kernel_rfl)) ?_
  intro W base args ds gs before hval0 hW hcnd hsz0 _
  have hval : ∀ (j : Nat) t v, Try.f4.params[j]? = some t → args[j]? = some v → Value.okWide Try.prog W .any base t v := hval0
  have hsz : (DataW.weightsEach Try.prog (Try.f4.params.toList ++ Rows.stemmaReadingsSpec.plain.varTypes Try.prog) (ds ++ gs)).all (· ≤ reachBytes) = true := hsz0
  clear hval0 hsz0
  have hW' := hW
  obtain ⟨p, q, hA0, hV, rfl, hfz, hnd⟩ := hW
  have hA : DataW.TrodAll enc Try.prog W 0 (fun _ => true) true Try.f4.params.toList args.toList ds p := hA0
  clear hA0
  rw [Try.params4] at hA hval hsz
  obtain ⟨v0, vs0, d0, ds0, p0, q0, hargs, rfl, rfl, h0, r0⟩ := trodAll_cons hA
  obtain ⟨v1, vs1, d1, ds1, p1, q1, rfl, rfl, rfl, h1, r1⟩ := trodAll_cons r0
  obtain ⟨v2, vs2, d2, ds2, p2, q2, rfl, rfl, rfl, h2, r2⟩ := trodAll_cons r1
  obtain ⟨rfl, rfl, rfl⟩ := trodAll_nil r2
  obtain rfl : args = #[v0, v1, v2] := by cases args; simp_all
  obtain ⟨rfl, rfl⟩ := trodVars_none hV
  have w0 : ∀ n ∈ d0.weights Try.prog 22, n ≤ reachBytes := fun n hn => of_decide_eq_true (List.all_eq_true.1 hsz n (DataW.weights_mem_each (j := 0) rfl rfl n hn))
  have lt0 : ∀ x ∈ p0, x.block < W.heap.size := by obtain ⟨m, hm⟩ := h0; exact DataW.trod_lt m _ _ _ hm
  have c0 : v0.cells = #[v0] := by obtain ⟨a, len, cap, rfl⟩ := okWide_slice Try.underlying22 (hval 0 22 v0 rfl rfl); rfl
  obtain ⟨a0, k0⟩ := Abs.arg_one (reads_rds enc W) (fun _ => rfl) c0 h0 w0
  have w1 : ∀ n ∈ d1.weights Try.prog 25, n ≤ reachBytes := fun n hn => of_decide_eq_true (List.all_eq_true.1 hsz n (DataW.weights_mem_each (j := 1) rfl rfl n hn))
  have lt1 : ∀ x ∈ p1, x.block < W.heap.size := by obtain ⟨m, hm⟩ := h1; exact DataW.trod_lt m _ _ _ hm
  obtain ⟨a1, k1⟩ := Abs.arg_agg Try.underlying25 (reads_tree enc W) (fun _ => ⟨_, rfl⟩) (hval 1 25 v1 rfl rfl) h1 w1
  have w2 : ∀ n ∈ d2.weights Try.prog 3, n ≤ reachBytes := fun n hn => of_decide_eq_true (List.all_eq_true.1 hsz n (DataW.weights_mem_each (j := 2) rfl rfl n hn))
  have lt2 : ∀ x ∈ p2, x.block < W.heap.size := by obtain ⟨m, hm⟩ := h2; exact DataW.trod_lt m _ _ _ hm
  have c2 : v2.cells = #[v2] := by obtain ⟨n, rfl⟩ := okWide_int Try.underlying3 (hval 2 3 v2 rfl rfl); rfl
  obtain ⟨a2, k2⟩ := Abs.arg_one (reads_i enc W) (fun _ => rfl) c2 h2 w2
  have hargsR : ∀ i, i < [rdsV a0, treeP a1, iv a2].length → Rep W Noblk Mu.none ([rdsV a0, treeP a1, iv a2].getD i .junk) ((#[v0, v1, v2] : Array Value).getD i undef) := by
    intro i hi
    match i, hi with
    | 0, _ => exact k0
    | 1, _ => exact k1
    | 2, _ => exact k2
  refine (Abs.CallP.calls (lawStemmaReadings_c a0 a1.1 a1.2 a2 (len_of_rds k0)) rfl hargsR).mono fun e W' ⟨he, bel⟩ => ?_
  subst he
  exact ⟨_, rfl, _, _, _, [], _, [], hW', trodAll_mk1 (shut_bool Try.underlying4 _), (trodAll_cons_mk (Below.trod laidOut (by kernel_rfl) (of_decide_eq_true (by kernel_rfl)) h0 bel lt0) (trodAll_cons_mk (Below.trod laidOut (by kernel_rfl) (of_decide_eq_true (by kernel_rfl)) h1 bel lt1) (trodAll_cons_mk (Below.trod laidOut (by kernel_rfl) (of_decide_eq_true (by kernel_rfl)) h2 bel lt2) trodAll_mk0))), rfl, bel.frame _, fun h => by cases h⟩
theorem stemmaReadings_k0 : (Rows.stemmaReadingsRow.wf (OpenSpec.ofChange Rows.stemmaReadingsSpec)) = true := by kernel_rfl
theorem stemmaReadings_k3 : (Try.f4.params.all (Try.pinned.checked.prog.readableRec ·)) = true := by kernel_rfl
theorem stemmaReadings_k4 : (namedTie Try.pinned.checked.prog Rows.stemmaReadingsRow.named Rows.stemmaReadingsSpec.vars) = true := by kernel_rfl
theorem stemmaReadings_k5 : ((Rows.stemmaReadingsRow.stops == [])) = true := by kernel_rfl
theorem stemmaReadings_k7 : ((Rows.stemmaReadingsRow.knobs == [])) = true := by kernel_rfl
theorem stemmaReadings_k9 : ((Rows.stemmaReadingsRow.inPlace == Try.pinned.checked.prog.inPlace 4)) = true := by kernel_rfl
theorem stemmaReadings_k10 : ((Rows.stemmaReadingsRow.unfollowed == Try.pinned.checked.prog.unfollowed 4)) = true := by kernel_rfl
theorem stemmaReadings_k11 : ((Rows.stemmaReadingsRow.recurses == Try.pinned.checked.prog.recurses 4)) = true := by kernel_rfl
theorem stemmaReadings_k12 : ((Rows.stemmaReadingsRow.named == Try.pinned.checked.prog.varsNamed 4)) = true := by kernel_rfl
theorem stemmaReadings_k13 : ((Rows.stemmaReadingsRow.maps == (Try.f4.params.toList ++ Rows.stemmaReadingsSpec.plain.varTypes Try.pinned.checked.prog).any (Try.pinned.checked.prog.mapsRec ·))) = true := by kernel_rfl
theorem stemmaReadings_k14 : ((Rows.stemmaReadingsRow.ifaces == (Try.f4.params.toList ++ Rows.stemmaReadingsSpec.plain.varTypes Try.pinned.checked.prog).any (Try.pinned.checked.prog.ifacesRec ·))) = true := by kernel_rfl
theorem stemmaReadings_k15 : ((Rows.stemmaReadingsRow.mapsOut == Try.pinned.checked.prog.mapsAmong Try.f4.resultTypes.toList)) = true := by kernel_rfl
theorem stemmaReadings_k16 : ((Rows.stemmaReadingsRow.loops == (Try.f4.params.toList ++ Rows.stemmaReadingsSpec.plain.varTypes Try.pinned.checked.prog).any (Try.pinned.checked.prog.loopsFrom ·))) = true := by kernel_rfl
theorem stemmaReadings_k17 : ((Rows.stemmaReadingsRow.wideKeys == (Try.f4.params.toList ++ Rows.stemmaReadingsSpec.plain.varTypes Try.pinned.checked.prog ++ Try.f4.resultTypes.toList).any (Try.pinned.checked.prog.wideKeysFrom ·))) = true := by kernel_rfl
theorem stemmaReadings_k18 : (Rows.stemmaReadingsSpec.vars.all (Try.pinned.checked.prog.varReadable ·)) = true := by kernel_rfl
theorem stemmaReadings_k19 : (Try.f4.resultTypes.all (fun t => Try.pinned.checked.prog.readableRec t && decide (t < Try.pinned.checked.prog.types.size))) = true := by kernel_rfl
theorem stemmaReadings_k20 : ((Rows.stemmaReadingsRow.ifacesOut == Try.f4.resultTypes.toList.any (Try.pinned.checked.prog.ifacesRec ·))) = true := by kernel_rfl
theorem stemmaReadings_k21 : ((Rows.stemmaReadingsRow.loopsOut == Try.f4.resultTypes.toList.any (Try.pinned.checked.prog.loopsFrom ·))) = true := by kernel_rfl
theorem stemmaReadings_k22 : ((Rows.stemmaReadingsRow.plainKeys == Try.pinned.checked.prog.plainKeys)) = true := by kernel_rfl
theorem stemmaReadings_k23 : (Rows.stemmaReadingsRow.shortTexts.isNone) = true := by kernel_rfl
theorem stemmaReadings_k26 : ((Rows.stemmaReadingsRow.lifted == Try.pinned.checked.prog.liftsFinal)) = true := by rw [liftsFinal_no]; kernel_rfl
theorem stemmaReadings_k27 : ((Try.pinned.checked.prog.make == some Rows.stemmaReadingsRow.make)) = true := by rw [make_cut]; kernel_rfl
theorem stemmaReadings_k28 : ((Rows.stemmaReadingsRow.kinds == (if Rows.stemmaReadingsRow.domain.isEmpty then [] else Try.f4.params.toList.map fun t => match Try.pinned.checked.prog.underlying t with | some (.int k) => some k | _ => none))) = true := by kernel_rfl
theorem stemmaReadings_k29 : ((Rows.stemmaReadingsRow.pinned == Rows.stemmaReadingsRow.pinnedBy)) = true := by kernel_rfl
theorem stemmaReadings_k30 : ((Rows.stemmaReadingsRow.veiled == (Try.f4.params.toList ++ Rows.stemmaReadingsSpec.plain.varTypes Try.pinned.checked.prog ++ Try.f4.resultTypes.toList).any (Try.pinned.checked.prog.veiledRec ·))) = true := by kernel_rfl
theorem stemmaReadings_k31 : (Rows.stemmaReadingsRow.veiledFits Try.pinned.checked.prog Try.f4.params.toList (Try.f4.params.toList ++ Rows.stemmaReadingsSpec.plain.varTypes Try.pinned.checked.prog ++ Try.f4.resultTypes.toList)) = true := by kernel_rfl

theorem stemmaReadings_proved : Rows.StemmaReadingsSaid :=
  OpenClaim.holds_of_wide 4 Try.f4 rfl rfl rfl rfl rfl rfl rfl ⟨rfl, rfl, rfl, rfl, rfl⟩ rfl rfl rfl rfl rfl (by kernel_rfl) Try.func4
    (joined_of stemmaReadings_k0 fact1 fact2 stemmaReadings_k3 stemmaReadings_k4 stemmaReadings_k5 fact6 stemmaReadings_k7 fact8 stemmaReadings_k9 stemmaReadings_k10 stemmaReadings_k11 stemmaReadings_k12 stemmaReadings_k13 stemmaReadings_k14 stemmaReadings_k15 stemmaReadings_k16 stemmaReadings_k17 stemmaReadings_k18 stemmaReadings_k19 stemmaReadings_k20 stemmaReadings_k21 stemmaReadings_k22 stemmaReadings_k23 fact24 mayEnter_yes stemmaReadings_k26 stemmaReadings_k27 stemmaReadings_k28 stemmaReadings_k29 stemmaReadings_k30 stemmaReadings_k31)
    (of_decide_eq_true (by kernel_rfl)) (by unfold Func.isWrapper; first | (rw [if_pos (by decide +kernel)]; kernel_rfl) | (rw [if_neg (by decide +kernel)]; exact ⟨rfl, rfl⟩))
    (fun os started H enc _ => stemmaReadings_lifted os started H enc)
#print axioms stemmaReadings_proved
end Go.Proofs.Ytnpkaemlidifgaa
